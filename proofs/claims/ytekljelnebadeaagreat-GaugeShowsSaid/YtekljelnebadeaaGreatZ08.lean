/- The executor is borne out: code by code, call by call. -/
import Derived.Test.YtekljelnebadeaaGreatZ07
import Derived.Test.YtekljelnebadeaaGreatZ04
import Derived.LoopNIn
set_option linter.unusedSimpArgs false
set_option linter.unusedVariables false
set_option linter.unusedSectionVars false
namespace Go.Ab
section
variable {E : Env} {nt lim : Nat} {cv : CallFn} {g : Nat} {ops : Array Oper} {al : List AOper} {st : Nat → List Value × Hp}
theorem guardA_not6 {o : AOp} {A : Hp} {g : Nat} (h : o.mem ≠ 6) : guardA o A g = g := by
  unfold guardA
  split
  · exact absurd rfl h
  · rfl
theorem opA_made {o : AOp} (hm : o.mem = 2) {cv : CallFn} {g : Nat} {T : List Value} {A A' : Hp} {v : Value} (h : opA o cv g T A = some (v, A')) : ∃ b, A' = A.push b ∧ ∀ g' B, B.n = A.n → opA o cv g' T B = some (v, B.push b) := by
  cases o <;> simp only [AOp.mem] at hm <;> try (cases hm; done)
  case call f l ro => cases ro <;> simp at hm
  case alloc z => cases h; exact ⟨_, rfl, fun _ B hB => by simp only [opA, allocA, hB]⟩
  case allocB => cases h; exact ⟨_, rfl, fun _ B hB => by simp only [opA, hB]⟩
  case box x => cases h; exact ⟨_, rfl, fun _ B hB => by simp only [opA, allocA, hB]⟩
  case slit n e z ps =>
    simp only [opA, slitA] at h
    split at h
    · rename_i cs hcs
      cases h
      exact ⟨_, rfl, fun _ B hB => by simp only [opA, slitA, hcs, hB]⟩
    · cases h
  case makeS l c e b z =>
    simp only [opA, makeSA] at h
    split at h
    · rename_i n m h1 h2
      split at h
      · rename_i h3
        cases h
        exact ⟨_, rfl, fun _ B hB => by simp only [opA, makeSA, h1, h2, if_pos h3, hB]⟩
      · cases h
    · cases h
  case makeM => cases h; exact ⟨_, rfl, fun _ B hB => by simp only [opA, hB]⟩
  case toBytes x =>
    simp only [opA, toBytesA] at h
    split at h
    · rename_i hx
      cases h
      exact ⟨_, rfl, fun _ B hB => by simp only [opA, toBytesA, hx, hB]⟩
    · cases h
namespace Draw
variable (D : Draw E nt lim cv g ops al st)
variable {φ0 : NM} {w0 : World} {ds : List Deferred} {S : Nat → Prop} {φ : NM} {a : Act} {w : World} {t : Nat} {TS : List Value}
include D
theorem inv_next (I : Inv E nt lim g ops al st φ0 w0 ds S φ a w t TS) {i : Nat} {o : Oper} {ao : AOper} {v v' : Value} {φ' : NM} {w' : World} {t' : Nat} (ho : ops[i]? = some o) (hao : al[i]? = some ao) (hi : i < ops.size)
    (hready : ∀ e ∈ (ops.toList.map edgesOf).getD i [], S e) (hv : (st (i + 1)).1 = putA ao.dst (st i).1 v) (hrv : RelV E.lab φ' v v')
    (htle : t' ≤ ops.size) (hbef : ∀ j, j < t' → writes al j → S j ∨ j = i) (hbeh : ∀ j, t' ≤ j → j < ops.size → writes al j → ¬ (S j ∨ j = i)) (htw : t' < ops.size → writes al t')
    (hext : Ext φ φ') (hnew : ∀ x e, φ' x = some e → φ x = some e ∨ ((st i).2.n ≤ x ∧ x < (st (i + 1)).2.n))
    (hheap : Hold E lim ops al st (fun k => S k ∨ k = i) φ' w' t') (hsize : w.heap.size ≤ w'.heap.size) (hframe : ∀ b, b < w0.heap.size → (∀ x e, φ0 x = some e → e.blk = b → x < g ∨ lim ≤ x ∨ roAt (st 0).2 x) → w'.heap[b]? = w.heap[b]?)
    (hfresh : ∀ x e, φ' x = some e → φ x = none → w.heap.size ≤ e.blk ∨ ∃ y ey, φ y = some ey ∧ g ≤ y ∧ y < lim ∧ ¬ roAt (st t).2 y ∧ ey.blk = e.blk)
    (hro : ∀ x, roAt (st t).2 x → roAt (st t').2 x) (henv : w'.os = w.os ∧ w'.output = w.output ∧ w'.tape = w.tape) :
    Inv E nt lim g ops al st φ0 w0 ds (fun k => S k ∨ k = i) φ' (a.put o.dst v') w' t' (putA ao.dst TS v) := by
  obtain ⟨hd1, hd2⟩ := D.put_done I hao hi hv
  obtain ⟨rof, _, _, hds, hdst⟩ := D.formed.2 i o ao ho hao
  refine ⟨htle, hbef, hbeh, htw, ?_, ?_, fun k d hk hd => hd1 k d hk hd, fun d hd => hd2 d hd, ?_, ?_, I.ext.trans hext, ?_, hheap, Nat.le_trans I.size hsize, ?_, ?_, ?_, I.fix0, ?_⟩
  · rintro j (hj | rfl)
    · exact I.bound j hj
    · exact hi
  · rintro j hj (hs | rfl) e he
    · exact .inl (I.closed j hj hs e he)
    · exact .inl (hready e he)
  · rw [hdst]; exact (I.rel.mono hext).put hds hrv
  · rw [← I.defers]; cases o.dst <;> rfl
  · intro x e hx
    rcases hnew x e hx with h | h
    · rcases I.new x e h with h | ⟨k, h1, h2⟩
      · exact .inl h
      · exact .inr ⟨k, .inl h1, h2⟩
    · exact .inr ⟨i, .inr rfl, h⟩
  · intro b hb H
    rw [hframe b hb H]; exact I.frame b hb H
  · intro x e hx hx0
    cases hxφ : φ x with
    | some e1 =>
      have := hext x e1 hxφ
      rw [hx] at this; cases this
      exact I.fresh x e hxφ hx0
    | none =>
      rcases hfresh x e hx hxφ with h | ⟨y, ey, hy, hlo, hlim, hnro, hb⟩
      · exact .inl (Nat.le_trans I.size h)
      · cases hy0 : φ0 y with
        | some e0 =>
          have := I.ext y e0 hy0
          rw [hy] at this; cases this
          exact .inr ⟨y, ey, hy0, hlo, hlim, fun hr => hnro (I.ro y hr), hb⟩
        | none =>
          rcases I.fresh y ey hy hy0 with h | ⟨z, ez, hz, hloz, hlimz, hnroz, hbz⟩
          · exact .inl (hb ▸ h)
          · exact .inr ⟨z, ez, hz, hloz, hlimz, hnroz, hbz.trans hb⟩
  · intro x hr; exact hro x (I.ro x hr)
  · exact ⟨henv.1.trans I.env.1, henv.2.1.trans I.env.2.1, henv.2.2.trans I.env.2.2⟩
theorem known_out (hdom0 : ∀ x e, φ0 x = some e → x < (st 0).2.n ∨ lim ≤ x) (I : Inv E nt lim g ops al st φ0 w0 ds S φ a w t TS) {i : Nat} (hi : i < ops.size) (hS : ¬ S i) :
    ∀ x e, φ x = some e → x < (st i).2.n ∨ (st (i + 1)).2.n ≤ x := by
  have hlim := D.hlim
  have hl0 := D.len_le (i := 0) (j := i) (by omega) (by omega)
  have hl1 := D.len_le (i := i + 1) (j := ops.size) (by omega) (by omega)
  intro x e hx
  rcases I.new x e hx with h | ⟨k, hk1, hk2, hk3⟩
  · rcases hdom0 x e h with h | h <;> omega
  · have hne : k ≠ i := fun h => hS (h ▸ hk1)
    rcases Nat.lt_or_ge k i with hlt | hge
    · have := D.len_le (i := k + 1) (j := i) (by omega) (by omega); omega
    · have := D.len_le (i := i + 1) (j := k) (by omega) (by have := I.bound k hk1; omega); omega
theorem caps_known (I : Inv E nt lim g ops al st φ0 w0 ds S φ a w t TS) {k y : Nat} {ok : AOper} (hok : al[k]? = some ok) (hk : k < ops.size) (hS : S k) (hop : ok.op.cap = some y) (hc : capOk al k = true) :
    ∀ x ∈ capsOf (tget (st k).1 y), ∃ e, φ x = some e := by
  unfold capOk at hc
  have hca : capAt al k = some y := by simp [capAt, hok, hop]
  rw [hca] at hc
  have hlook : y ∈ ok.looks := by
    unfold AOper.looks
    refine List.mem_append_left _ (List.mem_filterMap.2 ⟨.t y, ?_, rfl⟩)
    revert hop
    generalize ok.op = op
    intro hop
    cases op with
    | callC c f l => cases c with
      | t z => cases hop; simp [AOp.opds]
      | k u => cases hop
    | append f x e b => cases f with
      | t z => cases hop; simp [AOp.opds]
      | k u => cases hop
    | copy f x e => cases f with
      | t z => cases hop; simp [AOp.opds]
      | k u => cases hop
    | _ => cases hop
  simp only at hc
  · have hst := stable_spec D.size hc
    have hsame : tget TS y = tget (st k).1 y := by
      by_cases hex : ∃ j, dstAt al j y
      · obtain ⟨j, hj⟩ := hex
        have hjl := D.dst_lt hj
        have hjk : j < k := by
          rcases Nat.lt_or_ge j k with h | h
          · exact h
          · exact absurd hj (hst j h hjl)
        have hpair := (D.pair hjl hk).2
        have hj' := hj
        obtain ⟨oj, hoj, hdj⟩ := hj
        unfold dstOk at hpair
        rw [hoj, hok] at hpair
        simp only [hdj, Bool.or_eq_true, beq_iff_eq, show j ≠ k by omega, false_or, Bool.and_eq_true, Bool.not_eq_true', bne_iff_ne, ne_eq] at hpair
        have hord : ordered (befA (ops.toList.map edgesOf)) j k = true := by
          rcases hpair.2 with h | h
          · rw [List.contains_eq_mem] at h; simp [hlook] at h
          · exact h
        unfold ordered at hord
        rw [Bool.or_eq_true] at hord
        rcases hord with h | h
        · rw [I.done j y (D.ahead I hk h hS) hj']
          exact D.tmp_same (by omega) (Nat.le_refl _) fun q h1 _ hq => by have := D.dst_unique hq hj'; omega
        · have := D.lt_of_bit hjl h; omega
      · rw [I.undone y fun q _ hq => hex ⟨q, hq⟩]
        exact (D.tmp_same (Nat.zero_le _) (by omega) fun q _ _ hq => hex ⟨q, hq⟩).symm
    intro x hx
    have hr := I.rel.2 y
    rw [hsame] at hr
    cases hF : tget (st k).1 y with
    | func fn first captured =>
      rw [hF] at hx hr
      cases fn with
      | func h =>
        obtain ⟨f', first', captured', _, _, r1, r2⟩ := func_inv hr
        have r := r1.append r2
        simp only [capsOf, List.mem_filterMap] at hx
        obtain ⟨u, hu, hux⟩ := hx
        split at hux
        · rename_i b o el
          cases hux
          obtain ⟨n, hn⟩ := List.getElem?_of_mem hu
          have hnl : n < (first'.toList ++ captured'.toList).length := by rw [← r.1]; exact (List.getElem?_eq_some_iff.1 hn).1
          have := r.2 n _ _ hn (List.getElem?_eq_getElem hnl)
          generalize (first'.toList ++ captured'.toList)[n] = u' at this
          cases this with
          | ptr h => exact ⟨_, h⟩
        · cases hux
      | _ => simp [capsOf] at hx
    | slice p n c =>
      rw [hF] at hx hr
      cases p with
      | none => simp [capsOf] at hx
      | some a =>
        obtain ⟨b, o, sp⟩ := a
        simp [capsOf] at hx
        subst hx
        generalize a.tmps.getD y undef = u at hr
        cases hr with
        | slice h _ _ _ => exact ⟨_, h⟩
    | _ => rw [hF] at hx; simp [capsOf] at hx
theorem made_same (hdom0 : ∀ x e, φ0 x = some e → x < (st 0).2.n ∨ lim ≤ x) (I : Inv E nt lim g ops al st φ0 w0 ds S φ a w t TS) {i : Nat} (hi : i < ops.size) (hS : ¬ S i) (hready : ∀ e ∈ (ops.toList.map edgesOf).getD i [], S e) (hm : memOf al i = 2) :
    ∀ k, i + 1 ≤ k → k ≤ t → ∀ x, (st i).2.n ≤ x → x < (st (i + 1)).2.n → (st k).2.get x = (st (i + 1)).2.get x := by
  have hout := D.known_out hdom0 I hi hS
  have htl := I.tle
  intro k
  induction k with
  | zero => intro h; omega
  | succ k ih =>
    intro h1 h2 x hx1 hx2
    by_cases hk : k = i
    · subst hk; rfl
    · rw [← ih (by omega) (by omega) x hx1 hx2]
      have hxk : x < (st k).2.n := Nat.lt_of_lt_of_le hx2 (D.len_le (by omega) (by omega))
      by_cases hw : writes al k
      · have hSk := I.before k (by omega) hw
        obtain ⟨o, ao, _, hao⟩ := D.at_ (i := k) (by omega)
        have hno : ordered (befA (ops.toList.map edgesOf)) k i = false := by
          rw [Bool.eq_false_iff]
          intro hord
          rw [ordered, Bool.or_eq_true] at hord
          rcases hord with hb | hb
          · have := D.lt_of_bit hi hb; omega
          · exact hS (D.ahead I (by omega) hb hSk)
        have hp := (D.pair (i := k) (j := i) (by omega) hi).1
        unfold pairOk at hp
        have e1 : (k == i) = false := by simpa using hk
        rw [e1, hno, hm] at hp
        have hcap : capOk al k = true := by
          rcases hw with h | h | h | h <;> rw [h] at hp <;> simp at hp
          · exact hp
          · exact hp
        rcases D.step k ao hao with ⟨_, _, v1, hop1, _⟩ | ⟨_, heq, _⟩
        · obtain ⟨y, hy⟩ : ∃ y, ao.op.cap = some y := by
            have h := hcap
            unfold capOk capAt at h
            rw [hao] at h
            cases hq : ao.op.cap with
            | none => simp [hq] at h
            | some y => exact ⟨y, rfl⟩
          have hkn := D.caps_known I hao (by omega) hSk hy hcap
          refine (cap_only hy hop1) x hxk fun hx => ?_
          obtain ⟨e, he⟩ := hkn x hx
          have := hout x e he
          omega
        · rw [heq]
      · exact D.still_step (by omega) hw x hxk
theorem hold_quiet (I : Inv E nt lim g ops al st φ0 w0 ds S φ a w t TS) {i : Nat} {φ' : NM} {w' : World} (hext : Ext φ φ') (hall : ∀ b, b < w.heap.size → w'.heap[b]? = w.heap[b]?) (hwf : ∀ x e, φ' x = some e → e.blk < w'.heap.size)
    (hnew : ∀ x e, φ' x = some e → φ x = none → w.heap.size ≤ e.blk ∧ (∀ b, (st t).2.get x = some b → RelB E φ' w' b e) ∧
      ((st t).2.n ≤ x → t ≤ i ∧ i < ops.size ∧ memOf al i = 2 ∧ x = (st i).2.n ∧ ∃ b, (st (i + 1)).2.get x = some b ∧ RelB E φ' w' b e ∧ ∀ y ey, φ' y = some ey → φ y = none → y = x))
    (hsep : ∀ x y b c ex ey, x ≠ y → (st t).2.get x = some b → (st t).2.get y = some c → φ' x = some ex → φ' y = some ey → φ x = none → φ y = none → b.own = true → ex.blk ≠ ey.blk) :
    Hold E lim ops al st (fun k => S k ∨ k = i) φ' w' t := by
  have old : ∀ {x e e1}, φ x = some e1 → φ' x = some e → e1 = e := fun h1 h2 => by
    have := hext _ _ h1; rw [h2] at this; cases this; rfl
  refine ⟨hwf, ?_, ?_, ?_⟩
  · intro x b e hb hx
    cases hφ : φ x with
    | some e1 =>
      obtain rfl := old hφ hx
      exact (I.heap.blk x b e1 hb hφ).mono hext (hall _ (I.heap.wf x e1 hφ))
    | none => exact (hnew x e hx hφ).2.1 b hb
  · intro x y b c ex ey hxy hb hc hx hy hrw
    cases hφx : φ x with
    | some e1 =>
      obtain rfl := old hφx hx
      cases hφy : φ y with
      | some e2 =>
        obtain rfl := old hφy hy
        exact I.heap.sep x y b c e1 e2 hxy hb hc hφx hφy hrw
      | none =>
        have := (hnew y ey hy hφy).1
        have := I.heap.wf x e1 hφx
        omega
    | none =>
      cases hφy : φ y with
      | some e2 =>
        obtain rfl := old hφy hy
        have := (hnew x ex hx hφx).1
        have := I.heap.wf y e2 hφy
        omega
      | none => exact hsep x y b c ex ey hxy hb hc hx hy hφx hφy hrw
  · intro x e hx hge hlt
    cases hφ : φ x with
    | some e1 =>
      obtain rfl := old hφ hx
      obtain ⟨k, b, h1, h2, h3, h4, h5, h6, h7, h8⟩ := I.heap.far x e1 hφ hge hlt
      refine ⟨k, b, .inl h1, h2, h3, h4, h5, h6, h7.mono hext (hall _ (I.heap.wf x e1 hφ)), fun y ey hy hb => ?_⟩
      cases hφy : φ y with
      | some e2 => obtain rfl := old hφy hy; exact h8 y e2 hφy hb
      | none =>
        have := (hnew y ey hy hφy).1
        have := I.heap.wf x e1 hφ
        omega
    | none =>
      obtain ⟨h0, _, h⟩ := hnew x e hx hφ
      obtain ⟨h2, h3, h4, h5, b, h6, h7, h8⟩ := h hge
      refine ⟨i, b, .inr rfl, h2, h3, h4, h5, h6, h7, fun y ey hy hb => ?_⟩
      cases hφy : φ y with
      | some e2 =>
        obtain rfl := old hφy hy
        have := I.heap.wf y e2 hφy
        omega
      | none => exact h8 y ey hy hφy
theorem hold_write (I : Inv E nt lim g ops al st φ0 w0 ds S φ a w t TS) {i p t' : Nat} {φ' : NM} {w' : World} (hp : Post E (st p).2.n φ (st t).2 w g φ' (st p).2 w') (hpt : p ≤ t') (htl : t' ≤ ops.size)
    (hw : ∀ k, p ≤ k → k < t' → ¬ writes al k) : Hold E lim ops al st (fun k => S k ∨ k = i) φ' w' t' := by
  have hchain := D.still hpt htl hw
  have hlen := D.len_le hpt htl
  have hlen2 := hp.len
  have old : ∀ {x e}, φ' x = some e → (st p).2.n ≤ x → φ x = some e := fun {x e} h1 h2 => by
    rcases hp.dom x e h1 with h | h
    · exact h
    · omega
  have farx : ∀ {x e}, φ x = some e → (st p).2.n ≤ x → x < lim → ∃ k b, S k ∧ p ≤ k ∧ k < ops.size ∧ memOf al k = 2 ∧ x = (st k).2.n ∧ (st (k + 1)).2.get x = some b ∧ RelB E φ' w' b e ∧ ∀ y ey, φ' y = some ey → ey.blk = e.blk → y = x := by
    intro x e hx hge hlt
    obtain ⟨k, b, h1, h2, h3, h4, h5, h6, h7, h8⟩ := I.heap.far x e hx (by omega) hlt
    have hpk : p ≤ k := by
      rcases Nat.lt_or_ge k p with h | h
      · have := D.len_le (i := k + 1) (j := p) (by omega) (by omega)
        have := Hp.lt_of_get h6
        omega
      · exact h
    have hsame : w'.heap[e.blk]? = w.heap[e.blk]? := hp.frame _ (I.heap.wf x e hx) fun y ey hy hb => by
      rw [h8 y ey hy hb]; exact .inr (.inl hge)
    refine ⟨k, b, h1, hpk, h3, h4, h5, h6, h7.mono hp.ext hsame, fun y ey hy hb => ?_⟩
    cases hφy : φ y with
    | some e2 =>
      have := hp.ext y e2 hφy
      rw [hy] at this; cases this
      exact h8 y ey hφy hb
    | none =>
      exfalso
      rcases hp.fresh y ey hy hφy with h | ⟨z, ez, hz, _, hzl, _, hzb⟩
      · have := I.heap.wf x e hx; omega
      · have := h8 z ez hz (hzb.trans hb); omega
  have hlim' : (st t').2.n ≤ lim := Nat.le_trans (D.len_le htl (Nat.le_refl _)) D.hlim
  have near : ∀ {x b e}, (st t').2.get x = some b → φ' x = some e → (x < (st p).2.n ∧ (st p).2.get x = some b) ∨ ((st p).2.n ≤ x ∧ φ x = some e ∧ RelB E φ' w' b e ∧ ∀ y ey, φ' y = some ey → ey.blk = e.blk → y = x) := by
    intro x b e hb hx
    rcases Nat.lt_or_ge x (st p).2.n with h | h
    · exact .inl ⟨h, by rw [← hchain x h]; exact hb⟩
    · have hxt := Hp.lt_of_get hb
      have hφ := old hx h
      obtain ⟨k, c, h1, h2, h3, h4, h5, h6, h7, h8⟩ := farx hφ h (by omega)
      have hkt : k + 1 ≤ t' := by
        rcases Nat.lt_or_ge k t' with h | h
        · omega
        · have := D.len_le (i := t') (j := k) h (by omega); omega
      have := D.still (i := k + 1) (j := t') hkt htl (fun q hq1 hq2 => hw q (by omega) hq2) x (Hp.lt_of_get h6)
      rw [hb, h6] at this; cases this
      exact .inr ⟨h, hφ, h7, h8⟩
  refine ⟨hp.rel.wf, ?_, ?_, ?_⟩
  · intro x b e hb hx
    rcases near hb hx with ⟨_, h⟩ | ⟨_, _, h, _⟩
    · exact hp.rel.blk x b e h hx
    · exact h
  · intro x y b c ex ey hxy hb hc hx hy hrw
    rcases near hb hx with ⟨_, h⟩ | ⟨_, _, _, h⟩
    · rcases near hc hy with ⟨_, h'⟩ | ⟨_, _, _, h'⟩
      · exact hp.rel.sep x y b c ex ey hxy h h' hx hy hrw
      · exact fun hh => hxy (h' x ex hx hh)
    · exact fun hh => hxy (h y ey hy hh.symm).symm
  · intro x e hx hge hlt
    obtain ⟨k, b, h1, h2, h3, h4, h5, h6, h7, h8⟩ := farx (old hx (by omega)) (by omega) hlt
    refine ⟨k, b, .inl h1, ?_, h3, h4, h5, h6, h7, h8⟩
    rcases Nat.lt_or_ge k t' with h | h
    · have := D.len_le (i := k + 1) (j := t') (by omega) htl
      have := Hp.lt_of_get h6
      omega
    · exact h
theorem step_ok (hdom0 : ∀ x e, φ0 x = some e → x < (st 0).2.n ∨ lim ≤ x) (I : Inv E nt lim g ops al st φ0 w0 ds S φ a w t TS) {i : Nat} (hi : i < ops.size) (hS : ¬ S i) (hready : ∀ e ∈ (ops.toList.map edgesOf).getD i [], S e)
    (ro : Option Nat) {K : Act → World → Prop} {Q : Exit → Act → World → Prop} (hK : ∀ φ' a' w' t' TS', Inv E nt lim g ops al st φ0 w0 ds (fun k => S k ∨ k = i) φ' a' w' t' TS' → K a' w') :
    wpOpIn (fence ro) 0 E.P ops Q i K a w := by
  obtain ⟨o, ao, ho, hao⟩ := D.at_ hi
  obtain ⟨rof, hop, hgd, hds, hdst⟩ := D.formed.2 i o ao ho hao
  have hw := wanted_eq (ops := ops) (o := o) hgd I.rel
  have hws := D.wanted_same I hao hi hS hready
  have hev := D.ev_same I hao hi hS hready
  have hlenle : ∀ j, j ≤ ops.size → (st j).2.n ≤ lim := fun j hj => Nat.le_trans (D.len_le hj (Nat.le_refl _)) D.hlim
  have hout := D.known_out hdom0 I hi hS
  have htle := I.tle
  have frame0 : ∀ b, b < w0.heap.size → (∀ x e, φ0 x = some e → e.blk = b → x < g ∨ lim ≤ x ∨ roAt (st 0).2 x) → ∀ x e, φ x = some e → e.blk = b → x < g ∨ lim ≤ x ∨ roAt (st t).2 x := by
    intro b hb H x e hx he
    cases hx0 : φ0 x with
    | some e0 =>
      have := I.ext x e0 hx0
      rw [hx] at this; cases this
      exact (H x e hx0 he).imp id (Or.imp id (I.ro x))
    | none =>
      rcases I.fresh x e hx hx0 with h | ⟨y, ey, hy, hlo, hlim, hnro, hb'⟩
      · omega
      · rcases H y ey hy (hb'.trans he) with h | h | h
        · omega
        · omega
        · exact absurd h hnro
  unfold wpOpIn
  simp only [ho, hw, hws]
  rcases D.step i ao hao with ⟨h1, hap, v, h2, h3⟩ | ⟨h1, h2, h3⟩
  ·
    rw [if_pos h1]
    by_cases hwr : writes al i
    ·
      have hit := D.writer_is I hi hS hready hwr
      subst hit
      have hop' : opA ao.op cv g TS (st i).2 = some (v, (st (i + 1)).2) := by rw [opA_congr hev]; exact h2
      obtain ⟨t', ht1, ht2, ht3, ht4⟩ := nextWriter (al := al) (n := ops.size) (p := i + 1) (by omega)
      have hl1 := hlenle (i + 1) (by omega)
      have hRi : Rel E (st (i + 1)).2.n φ (st i).2 w := I.heap.rel (fun _ _ h => h) hout (I.fix I.ro)
      refine oper_sound (Nat.le_refl _) D.call hop I.rel hRi hop' ro _ _ fun v' w' φ' hv hp => ?_
      rw [guardA_not6 (by have := mem_at hao; unfold writes at hwr; omega)] at hp
      have hchain := D.still ht1 ht2 ht3
      refine hK φ' _ w' t' _ (D.inv_next I ho hao hi hready h3 hv ht2 ?_ ?_ ht4 hp.ext hp.dom (D.hold_write I hp ht1 ht2 ht3) hp.size ?_ ?_ ?_ hp.env)
      · intro j hj hwj
        rcases Nat.lt_trichotomy j i with h | h | h
        · exact .inl (I.before j h hwj)
        · exact .inr h
        · exact absurd hwj (ht3 j (by omega) hj)
      · rintro j hj hjl hwj (h | h)
        · exact I.behind j (by omega) hjl hwj h
        · omega
      · exact fun b hb H => hp.frame b (Nat.lt_of_lt_of_le hb I.size) fun x e hx he => (frame0 b hb H x e hx he).imp id (Or.imp (fun h => Nat.le_trans hl1 h) id)
      · intro x e hx hn
        rcases hp.fresh x e hx hn with h | ⟨y, ey, hy, k1, k2, k3, k4⟩
        · exact .inl h
        · exact .inr ⟨y, ey, hy, k1, Nat.lt_of_lt_of_le k2 hl1, k3, k4⟩
      · rintro x hr
        obtain ⟨cs, hcs, hc1⟩ := hp.ro x hr
        exact ⟨cs, by rw [hchain x (Hp.lt_of_get hcs)]; exact hcs, hc1⟩
    · have hmem := mem_at hao
      have hm7 : ao.op.mem = 0 ∨ ao.op.mem = 1 ∨ ao.op.mem = 2 ∨ ao.op.mem = 6 := by
        have hle : ao.op.mem ≤ 7 := by cases ao.op <;> simp only [AOp.mem] <;> try omega
                                       split <;> omega
        unfold writes at hwr; omega
      have hbef : ∀ j, j < t → writes al j → S j ∨ j = i := fun j h1 h2 => .inl (I.before j h1 h2)
      have hbeh : ∀ j, t ≤ j → j < ops.size → writes al j → ¬ (S j ∨ j = i) := by
        rintro j h1 h2 h3 (h | h)
        · exact I.behind j h1 h2 h3 h
        · exact hwr (h ▸ h3)
      by_cases hlook : ao.op.mem = 0 ∨ ao.op.mem = 1
      ·
        obtain ⟨B, hRB, hopB⟩ : ∃ B : Hp, Rel E B.n φ B w ∧ opA ao.op cv B.n TS B = some (v, B) := by
          rcases hlook with h | h
          · refine ⟨(st t).2, I.heap.rel (fun _ _ h => h) (fun x _ _ => Nat.lt_or_ge x _) (I.fix I.ro), ?_⟩
            rw [opA_congr hev]
            exact (opA_mem0 h h2).2 _ _
          · cases hq : ao.op <;> rw [hq] at h <;> simp only [AOp.mem] at h <;> try (cases h; done)
            · rename_i x s
              have h2' := h2
              rw [hq] at h2'
              obtain ⟨B, hR, hl⟩ := D.load_now I hao hi hS hready hq h1 hap (opA_load h2').2
              refine ⟨B, hR, ?_⟩
              rw [← hq, opA_congr hev, hq]
              simp only [opA, hl, pureV, Option.map_some]
            · split at h <;> cases h
        refine oper_sound (Nat.le_refl _) D.call hop I.rel hRB hopB ro _ _ fun v' w' φ' hv hp => ?_
        rw [guardA_not6 (by omega)] at hp
        have hdom : ∀ x e, φ' x = some e → φ x = some e := fun x e hx => by
          rcases hp.dom x e hx with h | h
          · exact h
          · omega
        have hall : ∀ b, b < w.heap.size → w'.heap[b]? = w.heap[b]? := fun b hb => hp.frame b hb fun x e _ _ => (Nat.lt_or_ge x B.n).imp id .inl
        have hnone : ∀ {x e}, φ' x = some e → φ x = none → False := fun hx hn => by have := hdom _ _ hx; rw [hn] at this; cases this
        exact hK φ' _ w' t _ (D.inv_next I ho hao hi hready h3 hv I.tle hbef hbeh I.tw hp.ext (fun x e hx => .inl (hdom x e hx))
          (D.hold_quiet I hp.ext hall hp.rel.wf (fun x e hx hn => (hnone hx hn).elim) (fun x y b c ex ey _ _ _ hx _ hn => (hnone hx hn).elim)) hp.size
          (fun b hb _ => hall b (Nat.lt_of_lt_of_le hb I.size)) (fun x e hx hn => (hnone hx hn).elim) (fun _ h => h) hp.env)
      ·
        obtain ⟨B, B', hBn, hBn', hBget, hBro, hopB, hnear, hfar⟩ : ∃ B B' : Hp, B.n = (st i).2.n ∧ B'.n = (st (i + 1)).2.n ∧ (∀ y b, B.get y = some b → (st t).2.get y = some b) ∧ (∀ x, roAt (st 0).2 x → roAt B x) ∧ opA ao.op cv B.n TS B = some (v, B') ∧
            (∀ x, (st i).2.n ≤ x → x < (st (i + 1)).2.n → ∀ b, (st t).2.get x = some b → B'.get x = some b) ∧
            (∀ x, (st i).2.n ≤ x → x < (st (i + 1)).2.n → (st t).2.n ≤ x → t ≤ i ∧ memOf al i = 2 ∧ x = (st i).2.n ∧ (st (i + 1)).2.n = (st i).2.n + 1 ∧ ∃ b, (st (i + 1)).2.get x = some b ∧ B'.get x = some b) := by
          have hm26 : memOf al i = 2 ∨ memOf al i = 6 := by omega
          rcases hm26 with hm | hm
          · obtain ⟨b, hb, hmk⟩ := opA_made (by omega) h2
            refine ⟨(st t).2.re (st i).2.n, ((st t).2.re (st i).2.n).push b, rfl, ?_, ?_, ?_, ?_, ?_, ?_⟩
            · rw [hb]; rfl
            · intro y c hy
              rw [Hp.get_re] at hy
              split at hy
              · exact hy
              · cases hy
            · intro x hx
              obtain ⟨d, k1, k2⟩ := I.ro x hx
              obtain ⟨d0, k3, _⟩ := hx
              have := Hp.lt_of_get k3
              have := D.len_le (i := 0) (j := i) (by omega) (by omega)
              exact ⟨d, by rw [Hp.get_re, if_pos (by omega)]; exact k1, k2⟩
            · rw [opA_congr hev]; exact hmk _ _ rfl
            · intro x hx1 hx2 c hc
              rw [hb, Hp.n_push] at hx2
              have hxi : x = (st i).2.n := by omega
              have hit : i + 1 ≤ t := by
                rcases Nat.lt_or_ge i t with h | h
                · exact h
                · have := D.len_le h (by omega)
                  have := Hp.lt_of_get hc
                  omega
              have := D.made_same hdom0 I hi hS hready hm t hit (Nat.le_refl _) x (by omega) (by rw [hb, Hp.n_push]; omega)
              rw [hc, hb, Hp.get_push, if_pos hxi] at this
              rw [Hp.get_push, if_pos (show x = ((st t).2.re (st i).2.n).n from hxi)]
              exact this.symm
            · intro x hx1 hx2 hx3
              rw [hb, Hp.n_push] at hx2
              have hxi : x = (st i).2.n := by omega
              refine ⟨?_, hm, hxi, by rw [hb]; rfl, b, by rw [hb, Hp.get_push, if_pos hxi], by rw [Hp.get_push, if_pos (show x = ((st t).2.re (st i).2.n).n from hxi)]⟩
              rcases Nat.lt_or_ge i t with h | h
              · have := D.len_le (i := i + 1) (j := t) h htle
                rw [hb, Hp.n_push] at this
                omega
              · exact h
          · obtain ⟨hit, hnw⟩ := D.caller_lt I hi hS hready hm
            have hst1 := D.still (i := i) (j := t) (by omega) htle hnw
            have hst2 := D.still (i := i + 1) (j := t) (by omega) htle fun k h1 h2 => hnw k (by omega) h2
            have hlen2 := D.len_le (i := i + 1) (j := t) (by omega) htle
            refine ⟨(st i).2, (st (i + 1)).2, rfl, rfl, fun y b hy => by rw [hst1 y (Hp.lt_of_get hy)]; exact hy, fun x hx => ?_, ?_, fun x _ h b hb => by rw [← hst2 x h]; exact hb, fun x _ h h' => by omega⟩
            · obtain ⟨d, k1, k2⟩ := I.ro x hx
              obtain ⟨d0, k3, _⟩ := hx
              have := Hp.lt_of_get k3
              have := D.len_le (i := 0) (j := i) (by omega) (by omega)
              exact ⟨d, by rw [← hst1 x (by omega)]; exact k1, k2⟩
            rw [opA_congr hev]
            cases hq : ao.op <;> rw [hmem, hq] at hm <;> simp only [AOp.mem] at hm <;> try (cases hm; done)
            · rename_i f l r
              cases r with
              | false => simp at hm
              | true => rw [hq] at h2; exact h2
            all_goals rw [hq] at h2; exact h2
        have hRB : Rel E (st (i + 1)).2.n φ B w := I.heap.rel hBget (by rw [hBn]; exact hout) (I.fix hBro)
        refine oper_sound (Nat.le_of_eq hBn') D.call hop I.rel hRB hopB ro _ _ fun v' w' φ' hv hp => ?_
        have hgd : guardA ao.op B B.n = B.n := by unfold guardA; split <;> rfl
        rw [hgd] at hp
        have hall : ∀ b, b < w.heap.size → w'.heap[b]? = w.heap[b]? := fun b hb => hp.frame b hb fun x e hx _ => by
          rcases hout x e hx with h | h
          · exact .inl (by omega)
          · exact .inr (.inl h)
        have hfr : ∀ x e, φ' x = some e → φ x = none → w.heap.size ≤ e.blk := fun x e hx hn =>
          (hp.fresh x e hx hn).resolve_right fun ⟨y, ey, hy, hlo, hl, _⟩ => by have := hout y ey hy; omega
        have hnewr : ∀ x e, φ' x = some e → φ x = none → (st i).2.n ≤ x ∧ x < (st (i + 1)).2.n := fun x e hx hn => by
          rcases hp.dom x e hx with h | h
          · rw [hn] at h; cases h
          · omega
        refine hK φ' _ w' t _ (D.inv_next I ho hao hi hready h3 hv I.tle hbef hbeh I.tw hp.ext (fun x e hx => ?_)
          (D.hold_quiet I hp.ext hall hp.rel.wf (fun x e hx hn => ?_) (fun x y b c ex ey hxy hb hc hx hy hnx hny hrw => ?_)) hp.size
          (fun b hb _ => hall b (Nat.lt_of_lt_of_le hb I.size)) (fun x e hx hn => .inl (hfr x e hx hn)) (fun _ h => h) hp.env)
        · rcases hp.dom x e hx with h | h
          · exact .inl h
          · exact .inr (by omega)
        · obtain ⟨hr1, hr2⟩ := hnewr x e hx hn
          refine ⟨hfr x e hx hn, fun b hb => hp.rel.blk x b e (hnear x hr1 hr2 b hb) hx, fun hge => ?_⟩
          obtain ⟨k1, k2, k3, k4, b, k5, k6⟩ := hfar x hr1 hr2 hge
          refine ⟨k1, hi, k2, k3, b, k5, hp.rel.blk x b e k6 hx, fun y ey hy hny => ?_⟩
          have := hnewr y ey hy hny
          omega
        · obtain ⟨hr1, hr2⟩ := hnewr x ex hx hnx
          obtain ⟨hq1, hq2⟩ := hnewr y ey hy hny
          exact hp.rel.sep x y b c ex ey hxy (hnear x hr1 hr2 b hb) (hnear y hq1 hq2 c hc) hx hy hrw
  ·
    rw [if_neg (by simp [h1])]
    refine ⟨fun f _ => trivial, ?_⟩
    by_cases hwr : writes al i
    · have hit := D.writer_is I hi hS hready hwr
      subst hit
      obtain ⟨t', ht1, ht2, ht3, ht4⟩ := nextWriter (al := al) (n := ops.size) (p := i + 1) (by omega)
      have hchain := D.still ht1 ht2 ht3
      have hpost : Post E (st (i + 1)).2.n φ (st i).2 w g φ (st (i + 1)).2 w := by
        rw [h2]; exact Post.refl (I.heap.rel (fun _ _ h => h) (fun x _ _ => Nat.lt_or_ge x _) (I.fix I.ro))
      refine hK φ _ w t' _ (D.inv_next I ho hao hi hready h3 relV_undef ht2 ?_ ?_ ht4 (Ext.refl _) (fun x e hx => .inl hx) (D.hold_write I hpost ht1 ht2 ht3) (Nat.le_refl _) (fun _ _ _ => rfl)
        (fun x e hx hn => by rw [hn] at hx; cases hx) ?_ ⟨rfl, rfl, rfl⟩)
      · intro j hj hwj
        rcases Nat.lt_trichotomy j i with h | h | h
        · exact .inl (I.before j h hwj)
        · exact .inr h
        · exact absurd hwj (ht3 j (by omega) hj)
      · rintro j hj hjl hwj (h | h)
        · exact I.behind j (by omega) hjl hwj h
        · omega
      · rintro x ⟨cs, hcs, hc1⟩
        rw [← h2] at hcs
        exact ⟨cs, by rw [hchain x (Hp.lt_of_get hcs)]; exact hcs, hc1⟩
    · have hnone : ∀ {x e}, φ x = some e → φ x = none → False := fun hx hn => by rw [hn] at hx; cases hx
      refine hK φ _ w t _ (D.inv_next I ho hao hi hready h3 relV_undef I.tle (fun j h1 h2 => .inl (I.before j h1 h2)) ?_ I.tw (Ext.refl _) (fun x e hx => .inl hx)
        (D.hold_quiet I (Ext.refl _) (fun _ _ => rfl) I.heap.wf (fun x e hx hn => (hnone hx hn).elim) (fun x y b c ex ey _ _ _ hx _ hn => (hnone hx hn).elim)) (Nat.le_refl _) (fun _ _ _ => rfl)
        (fun x e hx hn => by rw [hn] at hx; cases hx) (fun _ h => h) ⟨rfl, rfl, rfl⟩)
      rintro j h1 h2 h3 (h | h)
      · exact I.behind j h1 h2 h3 h
      · exact hwr (h ▸ h3)
theorem all_done (hdom0 : ∀ x e, φ0 x = some e → x < (st 0).2.n ∨ lim ≤ x) (I : Inv E nt lim g ops al st φ0 w0 ds S φ a w t TS) (hall : ∀ i, i < ops.size → S i) :
    RelT E.lab φ nt (st ops.size).1 a.tmps ∧ Post E lim φ0 (st 0).2 w0 g φ (st ops.size).2 w ∧ a.defers = ds := by
  have htn : t = ops.size := by
    rcases Nat.lt_or_ge t ops.size with h | h
    · exact absurd (hall t h) (I.behind t (Nat.le_refl _) h (I.tw h))
    · exact Nat.le_antisymm I.tle h
  subst htn
  refine ⟨⟨I.rel.1, fun d => ?_⟩, ⟨I.ext, ?_, D.len_le (Nat.zero_le _) (Nat.le_refl _), I.heap.rel (fun _ _ h => h) ?_ (I.fix I.ro), I.size, I.frame, I.fresh, I.ro, I.env⟩, I.defers⟩
  · have hd : tget TS d = tget (st ops.size).1 d := by
      by_cases hex : ∃ j, dstAt al j d
      · obtain ⟨j, hj⟩ := hex
        exact I.done j d (hall j (D.dst_lt hj)) hj
      · rw [I.undone d fun k _ hk => hex ⟨k, hk⟩]
        exact (D.tmp_same (Nat.zero_le _) (Nat.le_refl _) fun k _ _ hk => hex ⟨k, hk⟩).symm
    rw [← hd]; exact I.rel.2 d
  · intro x e hx
    rcases I.new x e hx with h | ⟨k, hk, h1, h2⟩
    · exact .inl h
    · have hkl := I.bound k hk
      have := D.len_le (i := 0) (j := k) (by omega) (by omega)
      have := D.len_le (i := k + 1) (j := ops.size) (by omega) (Nat.le_refl _)
      exact .inr (by omega)
  · intro x e hx
    rcases I.new x e hx with h | ⟨k, hk, h1, h2⟩
    · have := D.len_le (i := 0) (j := ops.size) (by omega) (Nat.le_refl _)
      rcases hdom0 x e h with h | h
      · exact .inl (by omega)
      · exact .inr h
    · have hkl := I.bound k hk
      have := D.len_le (i := k + 1) (j := ops.size) (by omega) (Nat.le_refl _)
      exact .inl (by omega)
theorem any_order (hdom0 : ∀ x e, φ0 x = some e → x < (st 0).2.n ∨ lim ≤ x) (ro : Option Nat) {Q : Exit → Act → World → Prop}
    (hQ : ∀ φ' a' w', RelT E.lab φ' nt (st ops.size).1 a'.tmps → Post E lim φ0 (st 0).2 w0 g φ' (st ops.size).2 w' → a'.defers = ds → Q .normal a' w') :
    ∀ (fuel : Nat) (listed : Array Bool) (φ : NM) (a : Act) (w : World) (t : Nat) (TS : List Value), listed.size = ops.size → ((List.range ops.size).filter fun i => !listed.getD i true).length ≤ fuel →
      Inv E nt lim g ops al st φ0 w0 ds (fun i => i < ops.size ∧ listed.getD i false = true) φ a w t TS → wpAnyIn (fence ro) 0 E.P .any ops Q fuel listed a w := by
  have edge : ∀ (i : Nat) (o : Oper), ops[i]? = some o → ∀ e, e ∈ (ops.toList.map edgesOf).getD i [] ↔ ∃ ed ∈ o.after, Region.binds .any ed = true ∧ ed.on = e := by
    intro i o ho e
    have : (ops.toList.map edgesOf).getD i [] = edgesOf o := by simp [List.getD, ho]
    rw [this]
    simp only [edgesOf, List.mem_map, List.mem_filter, Array.mem_toList_iff]
    constructor
    · rintro ⟨ed, ⟨h1, h2⟩, h3⟩; exact ⟨ed, h1, h2, h3⟩
    · rintro ⟨ed, h1, h2, h3⟩; exact ⟨ed, ⟨h1, h2⟩, h3⟩
  have done : ∀ (listed : Array Bool), listed.size = ops.size → Region.ready .any ops listed = [] → ∀ i, i < ops.size → listed.getD i false = true := by
    intro listed hsz hr i
    induction i using Nat.strongRecOn with
    | _ i ih =>
      intro hi
      cases hl : listed.getD i false with
      | true => rfl
      | false =>
        exfalso
        obtain ⟨o, ao, ho, hao⟩ := D.at_ hi
        have : i ∈ Region.ready .any ops listed := by
          refine mem_ready.2 ⟨?_, o, ho, fun ed hed hb => ?_⟩
          · simp [Array.getD, show i < listed.size by omega] at hl ⊢; exact hl
          · have hlt := D.back hi ed.on ((edge i o ho ed.on).2 ⟨ed, hed, hb, rfl⟩)
            exact ih ed.on hlt (by omega)
        rw [hr] at this; cases this
  intro fuel
  induction fuel with
  | zero =>
    intro listed φ a w t TS hsz hc I
    have hnil : (List.range ops.size).filter (fun i => !listed.getD i true) = [] := List.eq_nil_of_length_eq_zero (by omega)
    have hall : ∀ i, i < ops.size → listed.getD i false = true := by
      intro i hi
      have := List.filter_eq_nil_iff.1 hnil i (List.mem_range.2 hi)
      simp [Array.getD, show i < listed.size by omega] at this ⊢
      exact this
    have hr : Region.ready .any ops listed = [] := by
      cases hrd : Region.ready .any ops listed with
      | nil => rfl
      | cons j l =>
        exfalso
        have hj : j ∈ Region.ready .any ops listed := by rw [hrd]; simp
        obtain ⟨h1, o, ho, _⟩ := mem_ready.1 hj
        have hjl : j < ops.size := (Array.getElem?_eq_some_iff.1 ho).1
        have := hall j hjl
        simp [Array.getD, show j < listed.size by omega] at h1 this
        rw [h1] at this; cases this
    obtain ⟨h1, h2, h3⟩ := D.all_done hdom0 I fun i hi => ⟨hi, hall i hi⟩
    exact ⟨hr, hQ φ a w h1 h2 h3⟩
  | succ fuel ih =>
    intro listed φ a w t TS hsz hc I
    refine ⟨fun hr => ?_, fun i hi => ?_⟩
    · obtain ⟨h1, h2, h3⟩ := D.all_done hdom0 I fun i hi => ⟨hi, done listed hsz hr i hi⟩
      exact hQ φ a w h1 h2 h3
    · obtain ⟨h1, o, ho, h2⟩ := mem_ready.1 hi
      have hil : i < ops.size := (Array.getElem?_eq_some_iff.1 ho).1
      have hli : listed.getD i false = false := by simp [Array.getD, show i < listed.size by omega] at h1 ⊢; exact h1
      refine D.step_ok hdom0 I hil (fun h => by rw [hli] at h; cases h.2) (fun e he => ?_) ro fun φ' a' w' t' TS' I' => ?_
      · obtain ⟨ed, h3, h4, rfl⟩ := (edge i o ho e).1 he
        exact ⟨by have := D.back hil ed.on he; omega, h2 ed h3 h4⟩
      · have hset : ∀ j, j < ops.size → ((listed.setIfInBounds i true).getD j false = true ↔ listed.getD j false = true ∨ j = i) := by
          intro j hj
          simp only [Array.getD_eq_getD_getElem?, Array.getElem?_setIfInBounds]
          by_cases hji : i = j
          · subst hji; simp [show i < listed.size by omega]
          · simp [hji, Ne.symm hji]
        refine ih (listed.setIfInBounds i true) φ' a' w' t' TS' (by simpa using hsz) ?_ ?_
        ·
          have hlt : ((List.range ops.size).filter fun j => !(listed.setIfInBounds i true).getD j true).length < ((List.range ops.size).filter fun j => !listed.getD j true).length := by
            have hsub : ((List.range ops.size).filter fun j => !(listed.setIfInBounds i true).getD j true) = ((List.range ops.size).filter fun j => !listed.getD j true).filter fun j => j != i := by
              rw [List.filter_filter]
              apply List.filter_congr
              intro j hj
              have hj : j < ops.size := by simpa using hj
              simp only [Array.getD_eq_getD_getElem?, Array.getElem?_setIfInBounds]
              by_cases hji : i = j
              · subst hji; simp [show i < listed.size by omega]
              · simp [hji, Ne.symm hji]
            rw [hsub]
            have hmem : i ∈ (List.range ops.size).filter fun j => !listed.getD j true := List.mem_filter.2 ⟨List.mem_range.2 hil, by rw [h1]; rfl⟩
            have hle := List.length_filter_le (fun j => j != i) ((List.range ops.size).filter fun j => !listed.getD j true)
            rcases Nat.lt_or_ge (((List.range ops.size).filter fun j => !listed.getD j true).filter fun j => j != i).length ((List.range ops.size).filter fun j => !listed.getD j true).length with h | h
            · exact h
            · exfalso
              have heq := (List.length_filter_eq_length_iff (p := fun j => j != i) (l := (List.range ops.size).filter fun j => !listed.getD j true)).1 (by omega)
              have := heq i hmem
              simp at this
          omega
        · have hS : (fun k => (k < ops.size ∧ listed.getD k false = true) ∨ k = i) = fun k => k < ops.size ∧ (listed.setIfInBounds i true).getD k false = true := by
            funext k
            apply propext
            constructor
            · rintro (⟨h3, h4⟩ | rfl)
              · exact ⟨h3, (hset k h3).2 (.inl h4)⟩
              · exact ⟨hil, (hset k hil).2 (.inr rfl)⟩
            · rintro ⟨h3, h4⟩
              rcases (hset k h3).1 h4 with h | h
              · exact .inl ⟨h3, h⟩
              · exact .inr h
          rw [hS] at I'
          exact I'
end Draw
theorem drawn_sound {T A T' A'} (hcv : CallSound E cv) (hk : CallKeeps cv) (hf : Formed' E nt ops al) (hok : drawOk al (ops.toList.map edgesOf) = true) (h : opsA cv g al T A = some (T', A')) (hlim : A'.n ≤ lim)
    {φ : NM} {a : Act} {w : World} (hT : RelT E.lab φ nt T a.tmps) (hR : Rel E lim φ A w) (ro : Option Nat) {id : Nat} {Q : Exit → Act → World → Prop}
    (hQ : ∀ φ' a' w', RelT E.lab φ' nt T' a'.tmps → Post E lim φ A w g φ' A' w' → a'.defers = a.defers → Q .normal a' w') : (Code.region id ops true).wpIn (fence ro) 0 E.P Q a w := by
  obtain ⟨st, h0, h1, h2⟩ := opsA_states h
  rw [hf.1] at h1
  have D : Draw E nt lim cv g ops al st := ⟨hcv, hk, hf, h2, hok, by rw [h1]; exact hlim⟩
  refine wpIn_region_any E.mixed ?_
  have hw : Rel E lim φ A { w with drawn := w.drawn + 1 } := ⟨hR.dom, hR.wf, fun x b e hb he => (hR.blk x b e hb he).mono (Ext.refl _) rfl, hR.sep, hR.fix.ro_mono (fun _ _ => rfl) fun _ h => h⟩
  obtain ⟨t, _, ht2, ht3, ht4⟩ := nextWriter (al := al) (n := ops.size) (p := 0) (by omega)
  have hst := D.still (Nat.zero_le t) ht2 (fun k _ h => ht3 k (by omega) h)
  have hlen := D.len_le (Nat.zero_le t) ht2
  have hnone : ∀ i : Nat, ¬ (i < ops.size ∧ (Array.replicate ops.size false).getD i false = true) := by
    rintro i ⟨h1, h2⟩
    simp [Array.getD, h1] at h2
  refine D.any_order (φ0 := φ) (w0 := w) (ds := a.defers) (by rw [h0]; exact hR.dom) ro (fun φ' a' w' k1 k2 k3 => hQ φ' a' w' (by rw [h1] at k1; exact k1) (by rw [h0, h1] at k2; exact k2) k3)
    ops.size (Array.replicate ops.size false) φ a _ t T (by simp) (Nat.le_trans (List.length_filter_le _ _) (by simp)) ?_
  refine ⟨ht2, fun j hj hw => absurd hw (ht3 j (by omega) hj), fun j _ _ _ hs => hnone j hs, ht4, fun j hs => hs.1, fun j _ hs => absurd hs (hnone j), fun i d hs => absurd hs (hnone i), fun d _ => by rw [h0], hT, rfl, Ext.refl _,
    fun x e hx => .inl hx, ?_, Nat.le_refl _, fun _ _ _ => rfl, fun x e hx hn => (by rw [hx] at hn; cases hn), ?_, by rw [h0]; exact hR.fix, rfl, rfl, rfl⟩
  · rw [h0] at hst hlen
    have hh := hw.heap_mono hlen (Nat.le_trans (D.len_le ht2 (Nat.le_refl _)) D.hlim) hst
    refine ⟨hh.wf, hh.blk, hh.sep, fun x e hx hge hlt => ?_⟩
    exfalso
    have hlen' : A.n ≤ (st t).2.n := hlen
    rcases hR.dom x e hx with h | h <;> omega
  · rintro x ⟨cs, hcs, hc1⟩
    exact ⟨cs, by rw [hst x (Hp.lt_of_get hcs)]; exact hcs, hc1⟩
end
end Go.Ab
namespace Go.Ab
section
variable {E : Env} {lim nt : Nat} {φ φ1 : NM} {A A1 : Hp} {w w1 : World} {lo g : Nat}
theorem Post.obj (h : Post E lim φ A w lo φ1 A1 w1) {x : Nat} {e : Ent} {b0 : ABlk} (hx : φ1 x = some e) (hA : A1.get x = some b0) (hrw : b0.rw = true)
    (hnew : φ x = none ∨ (lo ≤ x ∧ x < lim)) {o : Obj} {b : Option ABlk} (hb : ∀ b', b = some b' → b'.rw = true ∧ RelB E φ1 (w1.putObj e.blk o) b' e) :
    Post E lim φ A w lo φ1 (A1.set x b) (w1.putObj e.blk o) := by
  have hset := Hp.get_set hA b
  have hother : ∀ k, k ≠ e.blk → (w1.putObj e.blk o).heap[k]? = w1.heap[k]? := fun k hk => World.putObj_heap_other hk
  have hsep : ∀ y b' ey, y ≠ x → A1.get y = some b' → φ1 y = some ey → ey.blk ≠ e.blk := fun y b' ey hy hb' hey => Ne.symm (h.rel.sep x y _ b' e ey (Ne.symm hy) hA hb' hx hey (ABlk.own_of_rw hrw))
  have nro : ¬ roAt A1 x := not_ro hA hrw
  refine ⟨h.ext, h.dom, h.len, ?_, by simpa using h.size, ?_, h.fresh, ?_, h.env⟩
  · refine ⟨h.rel.dom, fun y ey hy => by simpa using h.rel.wf y ey hy, ?_, ?_, h.rel.fix.write hx nro hother fun y hy => by rw [hset, if_neg hy]⟩
    · intro y b' ey hb' hy
      rw [hset] at hb'
      by_cases hyx : y = x
      · subst hyx
        rw [hx] at hy; cases hy
        rw [if_pos rfl] at hb'
        exact (hb b' hb').2
      · rw [if_neg hyx] at hb'
        exact (h.rel.blk y b' ey hb' hy).mono (Ext.refl _) (hother _ (hsep y b' ey hyx hb' hy))
    · intro y z b1 b2 ey ez hyz h1 h2 hy hz hrw'
      rw [hset] at h1 h2
      by_cases hyx : y = x
      · subst hyx
        rw [if_neg (Ne.symm hyz)] at h2
        rw [hx] at hy; cases hy
        exact Ne.symm (hsep z b2 ez (Ne.symm hyz) h2 hz)
      · rw [if_neg hyx] at h1
        by_cases hzx : z = x
        · subst hzx
          rw [hx] at hz; cases hz
          exact hsep y b1 ey hyx h1 hy
        · rw [if_neg hzx] at h2
          exact h.rel.sep y z b1 b2 ey ez hyz h1 h2 hy hz hrw'
  · intro b1 hb1 H
    rw [hother b1 ?_]
    · exact h.frame b1 hb1 H
    · rintro rfl
      cases hx0 : φ x with
      | some e0 =>
        have := h.ext x e0 hx0
        rw [hx] at this; cases this
        rcases hnew with hn | hn
        · rw [hx0] at hn; cases hn
        · rcases H x e hx0 rfl with h1 | h1 | h1
          · omega
          · omega
          · exact nro (h.ro x h1)
      | none =>
        rcases h.fresh x e hx hx0 with h1 | ⟨y, ey, hy, hlo, hlim, hnro, hbe⟩
        · omega
        · rcases H y ey hy hbe with h1 | h1 | h1
          · omega
          · omega
          · exact hnro h1
  · intro y hy
    obtain ⟨cs, hcs, hc1⟩ := h.ro y hy
    refine ⟨cs, ?_, hc1⟩
    rw [hset, if_neg (fun hyx : y = x => nro (by rw [← hyx]; exact ⟨cs, hcs, hc1⟩))]
    exact hcs
inductive RelD (φ : NM) : List Nat → List Deferred → Prop
  | nil : RelD φ [] []
  | cons {x : Nat} {e : Ent} {D : List Nat} {ds : List Deferred} : φ x = some e → RelD φ D ds → RelD φ (x :: D) ({ target := .collected e.blk, args := #[] } :: ds)
theorem RelD.mono (hφ : Ext φ φ1) {D : List Nat} {ds : List Deferred} (h : RelD φ D ds) : RelD φ1 D ds := by
  induction h with
  | nil => exact .nil
  | cons h _ ih => exact .cons (hφ _ _ h) ih
inductive RdOk (φ : NM) : Option Nat → Option Nat → Prop
  | none : RdOk φ none none
  | some {l : Nat} {e : Ent} : φ l = some e → RdOk φ (some l) (some e.blk)
theorem RdOk.mono (hφ : Ext φ φ1) {rd ro : Option Nat} (h : RdOk φ rd ro) : RdOk φ1 rd ro := by
  cases h with
  | none => exact .none
  | some h => exact .some (hφ _ _ h)
def exitOf : Ex → Exit
  | .normal => .normal
  | .exit id => .exit id
  | .ret => .ret
def Sound (E : Env) (nt : Nat) (run : RunFn) (wp : Option Nat → (Exit → Act → World → Prop) → Act → World → Prop) : Prop :=
  ∀ (g : Nat) (rd : Option Nat) (st : St) (ex : Ex) (st' : St), run g rd st = some (ex, st') →
    ∀ (lim : Nat) (φ : NM) (a : Act) (w : World) (ro : Option Nat), st'.A.n ≤ lim → RelT E.lab φ nt st.T a.tmps → RelD φ st.D a.defers → Rel E lim φ st.A w → RdOk φ rd ro →
      ∀ Q : Exit → Act → World → Prop, (∀ φ' a' w', RelT E.lab φ' nt st'.T a'.tmps → RelD φ' st'.D a'.defers → Post E lim φ st.A w g φ' st'.A w' → Q (exitOf ex) a' w') → wp ro Q a w
def wpc (E : Env) (c : Code) : Option Nat → (Exit → Act → World → Prop) → Act → World → Prop := fun ro Q a w => c.wpIn (fence ro) 0 E.P Q a w
def RunSound (E : Env) (run : ACode → RunFn) : Prop := ∀ (nt : Nat) (c : Code) (ac : ACode), compCode E.P E.lab nt c = some ac → Sound E nt (run ac) (wpc E c)
theorem then_sound {ra rb : RunFn} {x : Code} {next : Option Nat → (Exit → Act → World → Prop) → Act → World → Prop} (hx : Sound E nt ra (wpc E x)) (hb : Sound E nt rb next) (hk : RunKeeps rb) :
    Sound E nt (fun g rd st => seqA rb g rd (ra g rd st)) (fun ro Q a w => x.wpIn (fence ro) 0 E.P (Exit.then (next ro Q) Q) a w) := by
  intro g rd st ex st' h lim φ a w ro hlim hT hD hR hrd Q hQ
  replace h : seqA rb g rd (ra g rd st) = some (ex, st') := h
  show x.wpIn (fence ro) 0 E.P (Exit.then (next ro Q) Q) a w
  cases hr : ra g rd st with
  | none => rw [hr] at h; cases h
  | some r =>
    obtain ⟨ex1, st1⟩ := r
    rw [hr] at h
    cases ex1 with
    | normal =>
      replace h : rb g rd st1 = some (ex, st') := h
      have k := (hk _ _ _ _ _ h).1.1
      refine hx g rd st _ st1 hr lim φ a w ro (by omega) hT hD hR hrd _ fun φ1 a1 w1 hT1 hD1 hP1 => ?_
      exact hb g rd st1 ex st' h lim φ1 a1 w1 ro hlim hT1 hD1 hP1.rel (hrd.mono hP1.ext) Q fun φ2 a2 w2 hT2 hD2 hP2 => hQ φ2 a2 w2 hT2 hD2 (hP1.trans hP2)
    | exit id => cases h; exact hx g rd st _ _ hr lim φ a w ro hlim hT hD hR hrd _ hQ
    | ret => cases h; exact hx g rd st _ _ hr lim φ a w ro hlim hT hD hR hrd _ hQ
theorem iter_sound {ra : RunFn} {x : Code} (hx : Sound E nt ra (wpc E x)) (hk : RunKeeps ra) : ∀ m, Sound E nt (iterA ra m) (fun ro Q a w => Code.roundsIn (fence ro) 0 E.P x Q m a w) := by
  intro m
  induction m with
  | zero => intro g rd st ex st' h; cases h
  | succ m ih => exact then_sound hx ih (iterA_keeps hk m)
theorem loadVar_run {t : TypeId} {n : Option Nat} {u u' v : Value} (hn : cellsA E.P t = some n) (hu : RelV E.lab φ u u') (hR : Rel E lim φ A w) (h : loadA A u n = some v) :
    ∃ v', (do loadVar t (← asAddr u') : Sem Value).run E.P w = .ok v' w ∧ RelV E.lab φ v v' := by
  unfold loadA at h
  split at h
  · rename_i y off
    split at h
    · rename_i cs ro hy
      obtain ⟨e, he, rfl⟩ := ptr_inv hu
      cases n with
      | none =>
        have hag := cellsA_none hn
        simp only [partA] at h
        have hlt : off < cs.length := (List.getElem?_eq_some_iff.1 h).1
        obtain ⟨vs, hvl, hr, hcell⟩ := cells_of (o := off) hR he hy (n := 1) (by omega)
        obtain ⟨v', hv', hrel⟩ := hr.get (i := 0) (v := v) (by rw [List.getElem?_take]; simp [h])
        have := hcell 0 v' hv'
        rw [Addr.add_lit] at this
        simp only [Nat.add_zero] at this
        exact ⟨v', by simp [loadVar, asAddr, isAgg_run hag, this], hrel⟩
      | some s =>
        obtain ⟨hag, hs⟩ := cellsA_some hn
        simp only [partA] at h
        split at h
        · rename_i hle
          cases h
          obtain ⟨vs, hvl, hr, hcell⟩ := cells_of (o := off) hR he hy hle
          have hload := run_loadCells_list (P := E.P) w ⟨e.blk, e.off + off, none⟩ vs hcell
          rw [hvl] at hload
          exact ⟨.agg vs.toArray, by simp [loadVar, asAddr, isAgg_run hag, sizeOf_run hs, hload], RelL.agg (by simpa using hr)⟩
        · cases h
    · cases h
  · cases h
def resOf (tmps : Array Value) : ResultVar → Sem Value
  | .tmp t => pure (tmps.getD t undef)
  | .cell a t => do loadVar t (← asAddr (tmps.getD a undef))
theorem results_eq (fn : Func) (tmps : Array Value) : results fn tmps = (do
  let vs ← fn.results.mapM (resOf tmps)
  pure (if h : vs.size = 1 then vs[0] else .tuple vs)) := by
  unfold results
  congr 1
theorem resAll_run {T : List Value} {tmps : Array Value} (hT : RelT E.lab φ nt T tmps) (hR : Rel E lim φ A w) : ∀ {l : List ResultVar} {rs : List ARes} {vs : List Value}, l.mapM (compRes E.P nt) = some rs → resAll T A rs = some vs →
    ∃ vs', (l.mapM (resOf tmps)).run E.P w = .ok vs' w ∧ RelL E.lab φ vs vs' := by
  intro l
  induction l with
  | nil => intro rs vs h h'; simp at h; subst h; cases h'; exact ⟨[], by simp, RelL.nil⟩
  | cons x l ih =>
    intro rs vs h h'
    simp only [List.mapM_cons, Option.bind_eq_bind, Option.bind_eq_some_iff] at h
    obtain ⟨r, hr, rs', hrs, he⟩ := h
    cases he
    simp only [resAll] at h'
    split at h'
    · rename_i v hv
      simp only [Option.map_eq_some_iff] at h'
      obtain ⟨vs1, hvs1, rfl⟩ := h'
      obtain ⟨vs', hrun, hrel⟩ := ih hrs hvs1
      cases x with
      | tmp t =>
        simp only [compRes] at hr
        split at hr
        · cases hr
          cases hv
          refine ⟨tmps.getD t undef :: vs', ?_, RelL.cons (hT.2 t) hrel⟩
          rw [List.mapM_cons, Sem.run_bind, resOf]
          simp only [Sem.run_pure, Result.andThen_ok, Sem.run_bind, hrun]
        · cases hr
      | cell a t =>
        simp only [compRes] at hr
        split at hr
        · rename_i n hn
          split at hr
          · cases hr
            obtain ⟨v', hrun', hrel'⟩ := loadVar_run hn (hT.2 a) hR hv
            refine ⟨v' :: vs', ?_, RelL.cons hrel' hrel⟩
            rw [List.mapM_cons, Sem.run_bind, resOf, hrun']
            simp only [Sem.run_pure, Result.andThen_ok, Sem.run_bind, hrun]
          · cases hr
        · cases hr
    · cases h'
theorem results_run {fn : Func} {T : List Value} {tmps : Array Value} {rs : List ARes} {v : Value} (hT : RelT E.lab φ nt T tmps) (hR : Rel E lim φ A w) (hc : fn.results.toList.mapM (compRes E.P nt) = some rs) (h : resA rs T A = some v) :
    ∃ v', (results fn tmps).run E.P w = .ok v' w ∧ RelV E.lab φ v v' := by
  unfold resA at h
  have key : ∀ vs, resAll T A rs = some vs → ∃ vs', (results fn tmps).run E.P w = .ok (if h : vs'.toArray.size = 1 then vs'.toArray[0] else .tuple vs'.toArray) w ∧ RelL E.lab φ vs vs' := by
    intro vs hvs
    obtain ⟨vs', hrun, hrel⟩ := resAll_run hT hR hc hvs
    refine ⟨vs', ?_, hrel⟩
    rw [results_eq, Array.mapM_eq_mapM_toList, Sem.run_bind, map_eq_pure_bind, Sem.run_bind, hrun]
    simp only [Sem.run_pure, Result.andThen_ok]
  split at h
  · rename_i u hu
    cases h
    obtain ⟨vs', hrun, hrel⟩ := key _ hu
    obtain ⟨y, ys, rfl, hy, hnil⟩ := hrel.inv_cons
    obtain rfl := hnil.inv_nil
    exact ⟨y, by simpa using hrun, hy⟩
  · rename_i vs hne hvs
    cases h
    obtain ⟨vs', hrun, hrel⟩ := key _ hvs
    refine ⟨.tuple vs'.toArray, ?_, RelL.tuple (by simpa using hrel)⟩
    have : vs'.toArray.size ≠ 1 := by
      intro h1
      have hl := hrel.1
      simp at h1
      rw [h1] at hl
      obtain ⟨u, rfl⟩ := List.length_eq_one_iff.1 hl
      exact hne u rfl
    rw [dif_neg this] at hrun
    exact hrun
  · cases h
theorem takeMarks_n : ∀ {D : List Nat} {A1 A' : Hp}, takeMarks A1 D = some A' → A'.n = A1.n := by
  intro D
  induction D with
  | nil => intro A1 A' h; simp [takeMarks] at h; rw [h]
  | cons x D ih =>
    intro A1 A' h
    simp only [takeMarks] at h
    split at h
    · rw [ih h]; simp
    · cases h
theorem leaves {fn : Func} {tmps : Array Value} {R : Ending → World → Prop} (hR : Rel E lim φ A w) {A' : Hp} : ∀ {D : List Nat} {ds : List Deferred} {A1 : Hp} {w1 : World}, RelD φ1 D ds → Post E lim φ A w g φ1 A1 w1 → takeMarks A1 D = some A' →
    A1.n ≤ lim → (∀ x ∈ D, A.n ≤ x) → (∀ w2, Post E lim φ A w g φ1 A' w2 → LeavesInM (fence none) 0 E.P fn tmps R [] .returning w2) → LeavesInM (fence none) 0 E.P fn tmps R ds .returning w1 := by
  intro D
  induction D with
  | nil => intro ds A1 w1 hD hP ht _ _ hK; cases hD; simp [takeMarks] at ht; subst ht; exact hK w1 hP
  | cons x D ih =>
    intro ds A1 w1 hD hP ht hlim hge hK
    cases hD with
    | cons hx hD =>
      rename_i e ds
      simp only [takeMarks] at ht
      split at ht
      · rename_i hm
        have hb : w1.heap[e.blk]? = some (.deferred (some [])) := hP.rel.blk x _ e hm hx
        refine ⟨by simp, .inl ⟨e.blk, _, rfl, run_takeDeferred hb, ?_⟩⟩
        have hxl := Hp.lt_of_get hm
        refine ih hD (hP.obj hx hm rfl (.inl ?_) (fun b' h => by cases h)) ht (by simpa using hlim) (fun y hy => hge y (by simp [hy])) hK
        cases hx0 : φ x with
        | none => rfl
        | some e0 =>
          have := hR.dom x e0 hx0
          have := hge x (by simp)
          omega
      · cases ht
theorem compFunc_inv {fn : Func} {rs : List ARes} {body : ACode} (h : compFunc E.P E.lab fn = some (.fn nt rs body)) :
    ∃ c, fn.body = some c ∧ fn.ntmps = nt ∧ compCode E.P E.lab nt c = some body ∧ fn.results.toList.mapM (compRes E.P nt) = some rs ∧ ¬ fn.name = "runtime.NumGoroutine" := by
  unfold compFunc at h
  split at h
  · cases h
  · rename_i hne
    split at h
    · rename_i c hb
      split at h
      · rename_i x r hx hr
        cases h
        exact ⟨c, hb, rfl, hx, hr, by simpa using hne⟩
      · cases h
    · split at h <;> cases h
theorem tget_getD (T : List Value) (i : Nat) : tget T i = T.getD i undef := by
  induction T generalizing i with
  | nil => simp
  | cons x T ih => cases i with
    | zero => simp
    | succ i => simpa using ih i
theorem relT_args {args args' : List Value} (h : RelL E.lab φ args args') : RelT E.lab φ nt args (args'.toArray ++ Array.replicate (nt - args'.toArray.size) undef) := by
  refine ⟨by simp; omega, fun i => ?_⟩
  rw [tget_getD, List.getD_eq_getElem?_getD, Array.getD_eq_getD_getElem?, Array.getElem?_append]
  have hl := h.1
  by_cases hi : i < args.length
  · rw [if_pos (by simpa using hl ▸ hi)]
    have e1 : args[i]? = some args[i] := List.getElem?_eq_getElem hi
    obtain ⟨v', hv', hr⟩ := h.get e1
    simp [e1, hv', hr]
  · rw [if_neg (by simp; omega), List.getElem?_eq_none (by omega)]
    simp only [Option.getD_none, Array.getElem?_replicate]
    split <;> exact relV_undef
theorem enter_sound {run : ACode → RunFn} (hrun : RunSound E run) (hk : ∀ c, RunKeeps (run c)) {f : Nat} {rs : List ARes} {body : ACode} {args : List Value} {v : Value} {A' : Hp} (hap : E.AP f = some (.fn nt rs body))
    (h : enterA run g args A (some (.fn nt rs body)) = some (v, A')) : FnSound E g f args A v A' := by
  have h' : ∃ ex st', run body g none ⟨args, [], A⟩ = some (ex, st') ∧ (ex = .normal ∨ ex = .ret) ∧ takeMarks st'.A st'.D = some A' ∧ resA rs st'.T A' = some v := by
    simp only [enterA, finishA] at h
    split at h
    · cases h
    · rename_i ex st' hne heq
      split at h
      · rename_i A1 hA1
        simp only [Option.map_eq_some_iff] at h
        obtain ⟨u, hu, he⟩ := h
        cases he
        refine ⟨ex, st', heq, ?_, hA1, hu⟩
        cases ex with
        | normal => exact .inl rfl
        | ret => exact .inr rfl
        | exit id => exact absurd rfl (hne id)
      · cases h
    · cases h
  obtain ⟨ex, st', heq, hex, hmarks, hres⟩ := h'
  intro lim φ w f' args' hlim hlab hargs hR
  obtain ⟨fn, hfn, hcf⟩ := E.ok f' _ (by rw [hlab]; exact hap)
  obtain ⟨c, hb, hnt, hc, hrs, _⟩ := compFunc_inv hcf
  obtain ⟨hK, ns, hns, hmk⟩ := hk _ _ _ _ _ _ heq
  have hn := takeMarks_n hmarks
  refine callsIn_of_wp_marks hfn hb trivial ?_
  refine hrun nt c body hc g none ⟨args, [], A⟩ ex st' heq lim φ _ w none (by omega) (by rw [hnt]; exact relT_args hargs) .nil hR .none _ fun φ' a' w' hT hD hP => ?_
  have fin : LeavesInM (fence none) 0 E.P fn a'.tmps (fun e w' => ∃ v' φ', e = .returned v' ∧ RelV E.lab φ' v v' ∧ Post E lim φ A w g φ' A' w') a'.defers .returning w' := by
    refine leaves hR hD hP hmarks (by omega) (fun x hx => hmk x (by rw [hns] at hx; simpa using hx)) fun w2 hP2 => ?_
    obtain ⟨v', hv', hrel⟩ := results_run hT hP2.rel hrs hres
    exact ⟨v', hv', v', φ', rfl, hrel, hP2⟩
  rcases hex with rfl | rfl <;> exact fin
end
end Go.Ab
namespace Go.Ab
section
variable {E : Env} {lim nt : Nat} {φ φ3 : NM} {A A3 : Hp} {w w3 : World} {g : Nat}
def SpecsOk (E : Env) (K : Nat → Option Spec) : Prop :=
  ∀ h S, K h = some S → Entered E h ∧ ∀ g args A v A', S g args A = some (v, A') → FnSound E g h args A v A' ∧ HK g A A'
theorem SpecsOk.keeps {K : Nat → Option Spec} (hK : SpecsOk E K) : ∀ h S, K h = some S → ∀ g args A v A', S g args A = some (v, A') → HK g A A' :=
  fun h S hS g args A v A' hr => ((hK h S hS).2 g args A v A' hr).2
variable {K : Nat → Option Spec} {run : ACode → RunFn}
theorem callF_sound (hK : SpecsOk E K) (hrun : RunSound E run) (hk : ∀ c, RunKeeps (run c)) {f : Nat} {args : List Value} {v : Value} {A' : Hp} (h : callF E.AP K run g f args A = some (v, A')) :
    (Entered E f ∧ FnSound E g f args A v A') ∨ (E.AP f = some .sqrt ∧ sqrtA args = some v ∧ A' = A) := by
  unfold callF at h
  split at h
  · rename_i S hS
    obtain ⟨hap, hS'⟩ := hK f S hS
    exact .inl ⟨hap, (hS' _ _ _ _ _ h).1⟩
  · cases hap : E.AP f with
    | none => rw [hap] at h; cases h
    | some af =>
      rw [hap] at h
      cases af with
      | fn nt rs body => exact .inl ⟨⟨_, hap, rfl⟩, enter_sound hrun hk hap h⟩
      | lib => cases h
      | sqrt =>
        obtain ⟨h1, h2⟩ := pureV_heap h
        exact .inr ⟨rfl, h1, h2⟩
theorem zip_args {nt : Nat} : ∀ {ps : List Nat} {args args' : List Value} {T : List Value} {tmps : Array Value}, args.length = ps.length → (∀ p ∈ ps, p < nt) → RelL E.lab φ args args' → RelT E.lab φ nt T tmps →
    RelT E.lab φ nt (zipArgs T ps args) ((ps.zip args').foldl (fun tmps p => tmps.setIfInBounds p.1 p.2) tmps) := by
  intro ps
  induction ps with
  | nil => intro args args' T tmps _ _ _ hT; cases args <;> simpa [zipArgs] using hT
  | cons p ps ih =>
    intro args args' T tmps hl hp hr hT
    cases args with
    | nil => simp at hl
    | cons x args =>
      obtain ⟨y, ys, rfl, hxy, hrest⟩ := hr.inv_cons
      exact ih (by simpa using hl) (fun q hq => hp q (by simp [hq])) hrest (hT.set (hp p (by simp)) hxy)
theorem round_sound (hrun : RunSound E run) (hk : ∀ c, RunKeeps (run c)) {l : Nat} {args : List Value} {v : Value} {A' : Hp} (h : yieldA run g l args A = some (v, A')) : RoundSound E g l args A v A' := by
  unfold yieldA at h
  split at h
  case h_2 => cases h
  rename_i r hl
  split at h
  case isFalse => cases h
  rename_i hg
  unfold beginRoundA at h
  split at h
  case h_2 => cases h
  rename_i st1 heq
  split at h
  case h_2 => cases h
  rename_i r1 hl1
  split at h
  case h_2 => cases h
  rename_i hready
  unfold endRoundA at h
  split at h
  case h_2 => cases h
  rename_i ex st2 heq2
  split at h
  case h_2 => cases h
  rename_i r2 hl2
  cases h
  intro lim φ w e args' hlim hφ hargs hR
  have k1 := (hk _ _ _ _ _ _ heq).1
  have k2 := (hk _ _ _ _ _ _ heq2).1
  have n1 := k1.1
  have n2 := k2.1
  simp only [Hp.n_set] at hlim n1 n2
  obtain ⟨r', nt, hw, hst, hpend, hps, hpn, hca, hcb, hTr⟩ := hR.blk l _ e hl hφ
  have hlen : args'.toArray.size = r'.params.size := by
    have h1 := hargs.1
    have h2 : r'.params.size = r.params.length := by rw [← hps]; simp
    simp; omega
  refine ⟨_, _, _, _, run_yield hw hlen, roundIn_of_wpIn trivial ?_⟩
  have hT0 := zip_args (E := E) hg.1 hpn hargs hTr
  have hfold : (r'.params.zip args'.toArray).foldl (fun tmps p => tmps.setIfInBounds p.1 p.2) r'.tmps = (r.params.zip args').foldl (fun tmps p => tmps.setIfInBounds p.1 p.2) r'.tmps := by
    rw [← hps, ← Array.foldl_toList, Array.toList_zip]
  refine hrun nt _ _ hca g (some l) ⟨zipArgs r.tmps r.params args, [], A⟩ _ st1 heq lim φ _ w (some e.blk) (by omega) ?_ .nil hR (.some hφ) _ fun φ1 a1 w1 hT1 hD1 hP1 => ?_
  · show RelT E.lab φ nt (zipArgs r.tmps r.params args) ((r'.params.zip args'.toArray).foldl (fun tmps p => tmps.setIfInBounds p.1 p.2) r'.tmps)
    rw [hfold]; exact hT0
  · have hφ1 := hP1.ext l e hφ
    obtain ⟨r1', nt1, hw1, hst1, hpend1, hps1, hpn1, hca1, hcb1, hTr1⟩ := hP1.rel.blk l _ e hl1 hφ1
    have hll : l < lim := by have := Hp.lt_of_get hl2; omega
    refine ⟨_, run_beginRound hw1 (by rw [hst1]; exact hready), ?_⟩
    have hwl := hP1.rel.wf l e hφ1
    have hP2 : Post E lim φ A w g φ1 (st1.A.set l (some (.loop { r1 with state := .busy }))) (w1.putObj e.blk (.loop { r1' with state := .busy })) := by
      refine hP1.obj hφ1 hl1 rfl (.inr ⟨hg.2, hll⟩) fun b' hb' => ?_
      cases hb'
      exact ⟨rfl, _, nt1, World.putObj_heap_same hwl, rfl, hpend1, hps1, hpn1, hca1, hcb1, hTr1⟩
    refine hrun nt _ _ hcb g (some l) ⟨st1.T, st1.D, _⟩ ex st2 heq2 lim φ1 a1 _ (some e.blk) (by omega) hT1 hD1 hP2.rel (.some hφ1) _ fun φ3 a3 w3 hT3 hD3 hP3 => ?_
    · have hφ3 := hP3.ext l e hφ1
      obtain ⟨r2', nt2, hw3, hst3, hpend3, hps3, hpn3, hca3, hcb3, hTr3⟩ := hP3.rel.blk l _ e hl2 hφ3
      have hwl3 := hP3.rel.wf l e hφ3
      have fin : ∀ (jump : Option Code), jump = ex.pend.map pendCode → ∃ v w', (Instr.endRound e.blk jump).run E.P w3 = .ok v w' ∧ ∃ v' φ', Ending.returned v = .returned v' ∧ RelV E.lab φ' (.bool ex.pend.isNone) v' ∧
          Post E lim φ A w g φ' (st2.A.set l (some (.loop { r2 with state := if ex.pend.isNone then .ready else .done, pending := ex.pend }))) w' := by
        intro jump hj
        have hjn : jump.isNone = ex.pend.isNone := by rw [hj]; simp
        refine ⟨_, _, run_endRound jump hw3, _, φ3, rfl, ?_, ?_⟩
        · rw [hjn]; exact .bool _
        · rw [hjn]
          refine (hP2.trans hP3).obj hφ3 hl2 rfl (.inr ⟨hg.2, hll⟩) fun b' hb' => ?_
          cases hb'
          exact ⟨rfl, _, nt2, World.putObj_heap_same hwl3, rfl, hj, hps3, hpn3, hca3, hcb3, hTr3⟩
      cases ex with
      | normal => exact fin none rfl
      | ret => exact fin (some .ret) rfl
      | exit id => exact fin (some (.exit id)) rfl
theorem endLoop_sound (hP : Post E lim φ A w g φ3 A3 w3) {l : Nat} {e : Ent} (hl : φ3 l = some e) (hn : φ l = none) {T : List Value} {D : List Nat} {v : Value} {ex : Ex} {st' : St} (h : endLoopA l T D (some (v, A3)) = some (ex, st')) :
    st'.T = T ∧ st'.D = D ∧ st'.A.n = A3.n ∧ ∃ w4, (Instr.endLoop e.blk).run E.P w3 = .ok (ex.pend.map pendCode) w4 ∧ Post E lim φ A w g φ3 st'.A w4 := by
  unfold endLoopA at h
  split at h
  case h_2 => rename_i hne; cases hne
  rename_i v' A3' heq
  cases heq
  split at h
  case h_2 => cases h
  rename_i r hr
  obtain ⟨r', nt, hw, hst, hpend, hps, hpn, hca, hcb, hTr⟩ := hP.rel.blk l _ e hr hl
  have hwl := hP.rel.wf l e hl
  have hP4 : Post E lim φ A w g φ3 (A3.set l (some (.loop { r with state := .exhausted }))) (w3.putObj e.blk (.loop { r' with state := .exhausted })) := by
    refine hP.obj hl hr rfl (.inl hn) fun b' hb' => ?_
    cases hb'
    exact ⟨rfl, _, nt, World.putObj_heap_same hwl, rfl, hpend, hps, hpn, hca, hcb, hTr⟩
  have hrun : r.state ≠ .busy → (Instr.endLoop e.blk).run E.P w3 = .ok (r.pending.map pendCode) (w3.putObj e.blk (.loop { r' with state := .exhausted })) := fun hb => by
    rw [← hpend]
    exact run_endLoop hw (by rw [hst]; exact hb)
  split at h
  · cases h
  · rename_i hbusy
    have hb : r.state ≠ .busy := fun hb => hbusy hb
    split at h <;> rename_i hp <;> cases h <;> refine ⟨rfl, rfl, rfl, _, ?_, hP4⟩ <;> rw [hrun hb, hp] <;> rfl
def CfSound (E : Env) (cf : Nat → Nat → List Value → Hp → Option (Value × Hp)) : Prop :=
  ∀ g f args A v A', cf g f args A = some (v, A') → (Entered E f ∧ FnSound E g f args A v A') ∨ (E.AP f = some .sqrt ∧ sqrtA args = some v ∧ A' = A)
theorem range_core {cf : Nat → Nat → List Value → Hp → Option (Value × Hp)} (hcf : CfSound E cf) {nt h l fn gf : Nat} {first captured first' captured' : Array Value} {a : Act} {f : Operand} {ps : Array Tmp} {ca cb : Code} {ro : Option Nat}
    {φ2 : NM} {A2 : Hp} {w2 : World} {e : Ent} {mark : List Deferred} {T : List Value} {D : List Nat} {v : Value} {ex : Ex} {st' : St} {Q : Exit → Act → World → Prop}
    (hu : a.eval f = .func (.func gf) first' captured') (hlab : E.lab gf = h) (r1 : RelL E.lab φ first.toList first'.toList) (r2 : RelL E.lab φ captured.toList captured'.toList)
    (hcall : cf g h (first.toList ++ [.func (.yield l) #[] #[]] ++ captured.toList) A2 = some (v, A3)) (hlim : A3.n ≤ lim)
    (henter : (Instr.enterLoop fn a.tmps ps ca cb (fence ro).round).run E.P w = .ok (e.blk, mark) w2)
    (hP2 : Post E lim φ A w g φ2 A2 w2) (hl : φ2 l = some e) (hn : φ l = none) (h4 : endLoopA l T D (some (v, A3)) = some (ex, st'))
    (hT : RelT E.lab φ nt T a.tmps) (hD : RelD φ2 D (mark ++ a.defers))
    (hQ : ∀ φ' a' w', RelT E.lab φ' nt st'.T a'.tmps → RelD φ' st'.D a'.defers → Post E lim φ A w g φ' st'.A w' → Q (exitOf ex) a' w') :
    ∃ (l' : Nat) (mark : List Deferred) (w₁ : World) (d : Deferred) (w₁' : World) (f' : FuncId) (args : Array Value) (w₂ : World),
      (Instr.enterLoop fn a.tmps ps ca cb (fence ro).round).run E.P w = .ok (l', mark) w₁ ∧
      (resolve a.eval (rangeCall f l') 0).run E.P w₁ = .ok d w₁' ∧
      (∀ f', Target.leads E.P w₁' d.target d.args = some f' → (fence ro).fn f') ∧
      (invoke d.target d.args).run E.P w₁' = .ok (.enter f' args) w₂ ∧
      ((fence ro).depth.isSome = true → 1 ≤ 0) ∧
      CallsIn (fence ro) (0 - 1) E.P f' args w₂ (rangePost (fence ro) 0 E.P l' Q { a with defers := mark ++ a.defers }) := by
  have hfn : Entered E h ∧ FnSound E g h (first.toList ++ [.func (.yield l) #[] #[]] ++ captured.toList) A2 v A3 := by
    rcases hcf _ _ _ _ _ _ hcall with h1 | ⟨_, h1, _⟩
    · exact h1
    · exfalso
      unfold sqrtA at h1
      split at h1
      · rename_i x heq
        have := congrArg List.length heq
        have hmem : Value.func (.yield l) #[] #[] ∈ [Value.float .f64 x] := by rw [← heq]; simp
        simp at hmem
      · cases h1
  obtain ⟨⟨af, hap, hent⟩, hs⟩ := hfn
  obtain ⟨fun_, hfun, hcomp⟩ := E.ok gf _ (by rw [hlab]; exact hap)
  obtain ⟨c, hb, hname⟩ := ent_body hcomp hent
  have hargs : RelL E.lab φ2 (first.toList ++ [.func (.yield l) #[] #[]] ++ captured.toList) (first'.toList ++ [.func (.yield e.blk) #[] #[]] ++ captured'.toList) :=
    ((r1.mono hP2.ext).append (RelL.cons (.yield hl) RelL.nil)).append (r2.mono hP2.ext)
  have hc := hs lim φ2 w2 gf _ hlim hlab hargs hP2.rel
  have harr : (first'.toList ++ [Value.func (.yield e.blk) #[] #[]] ++ captured'.toList).toArray = first' ++ #[Value.func (.yield e.blk) #[] #[]] ++ captured' := by
    apply Array.toList_inj.1; simp
  rw [harr] at hc
  refine ⟨e.blk, mark, w2, { target := .fn (.func gf) captured', args := first' ++ #[Value.func (.yield e.blk) #[] #[]] }, w2, gf, _, w2, henter, ?_, fun _ _ => trivial, ?_, fun h => (by cases h), CallsIn.mono (callsIn_fence hc) ?_⟩
  · have hconst : a.eval (.const (.func (.yield e.blk) #[] #[])) = .func (.yield e.blk) #[] #[] := rfl
    simp [resolve, hu, hconst, Deferred.ofValue]
  · simp [invoke, callFunc, hfun, hb, hname]
  · rintro en w3 ⟨v', φ3, rfl, hv, hP3⟩
    obtain ⟨e1, e2, e3, w4, hend, hP4⟩ := endLoop_sound (hP2.trans hP3) (hP3.ext l e hl) hn h4
    refine ⟨_, w4, hend, ?_⟩
    have fin := hQ φ3 { a with defers := mark ++ a.defers } w4 (by rw [e1]; exact hT.mono (hP2.ext.trans hP3.ext)) (by rw [e2]; exact hD.mono hP3.ext) hP4
    cases ex with
    | normal => exact fin
    | ret => exact wpIn_ret fin
    | exit id => exact wpIn_exit fin
theorem endLoopA_some {l : Nat} {T : List Value} {D : List Nat} {r : Option (Value × Hp)} {ex : Ex} {st' : St} (h : endLoopA l T D r = some (ex, st')) : ∃ v A3, r = some (v, A3) ∧ st'.A.n = A3.n := by
  cases r with
  | none => cases h
  | some p =>
    obtain ⟨v, A3⟩ := p
    refine ⟨v, A3, rfl, ?_⟩
    simp only [endLoopA] at h
    split at h
    · split at h
      · cases h
      · split at h <;> cases h <;> rfl
    · cases h
theorem range_sound {cf : Nat → Nat → List Value → Hp → Option (Value × Hp)} (hcf : CfSound E cf) (hck : FnKeeps cf) {f : Operand} {z : Opd} {ps : Array Tmp} {ca cb : Code} {xa xb : ACode} (hz : compOpd E.lab nt f = some z)
    (ha : compCode E.P E.lab nt ca = some xa) (hb : compCode E.P E.lab nt cb = some xb) (hps : ∀ p ∈ ps.toList, p < nt) : Sound E nt (fun g rd st => rangeA cf ps.toList xa xb g rd st (ev st.T z)) (wpc E (.rangeFunc f ps ca cb)) := by
  intro g rd st ex st' h lim φ a w ro hlim hT hD hR hrd Q hQ
  have rf := hT.eval hz
  replace h : rangeA cf ps.toList xa xb g rd st (ev st.T z) = some (ex, st') := h
  unfold rangeA at h
  split at h
  case h_2 => cases h
  rename_i u hh first captured hev
  rw [hev] at rf
  obtain ⟨gf, first', captured', hu, hlab, r1, r2⟩ := func_inv rf
  refine wpIn_rangeFunc fun fn _ => ?_
  cases hrd with
  | none =>
    simp only at h
    obtain ⟨v, A3, hcall, hn3⟩ := endLoopA_some h
    have hk := (hck _ _ _ _ _ _ hcall).1
    simp only [Hp.n_push] at hk
    rw [hcall] at h
    have hP1 : Post E lim φ st.A w g (ins φ st.A.n ⟨w.heap.size, 0, 0⟩) (st.A.push .marks) (w.alloc (.deferred (some []))) :=
      post_push hR (by omega) rfl ⟨rfl, rfl, rfl⟩ (World.alloc_heap_new w _)
    have hP2 := post_push (lo := g) (b := .loop { state := .ready, pending := none, tmps := st.T, params := ps.toList, assign := xa, body := xb })
      (obj := .loop { state := .ready, pending := none, fn, tmps := a.tmps, params := ps, assign := ca, body := cb, defers := w.heap.size }) (size := 0) hP1.rel (by simp; omega)
      (w1 := (w.alloc (.deferred (some []))).alloc (.loop { state := .ready, pending := none, fn, tmps := a.tmps, params := ps, assign := ca, body := cb, defers := w.heap.size })) rfl ⟨rfl, rfl, rfl⟩
      ⟨_, nt, World.alloc_heap_new _ _, rfl, rfl, rfl, hps, ha, hb, hT.mono (hP1.ext.trans (ext_ins (hP1.rel.fresh (by simp; omega))))⟩
    have hP := hP1.trans hP2
    simp only [Hp.n_push, World.size_alloc] at hP
    refine range_core (l := st.A.n + 1) (e := ⟨w.heap.size + 1, 0, 0⟩) (nt := nt) hcf hu hlab r1 r2 hcall (by omega) (run_enterLoop_outer _ _ _ _ _) hP (ins_same _ _ _) ?_ h hT ?_ hQ
    · cases hx : φ (st.A.n + 1) with
      | none => rfl
      | some e => have := hR.dom _ _ hx; omega
    · refine .cons (e := ⟨w.heap.size, 0, 0⟩) ?_ (hD.mono hP.ext)
      rw [ins_other (by omega)]; exact ins_same _ _ _
  | @some l0 e0 hφ =>
    simp only at h
    split at h
    case h_2 => cases h
    rename_i r0 hl0
    obtain ⟨r0', nt0, hw0, _⟩ := hR.blk l0 _ e0 hl0 hφ
    obtain ⟨v, A3, hcall, hn3⟩ := endLoopA_some h
    have hk := (hck _ _ _ _ _ _ hcall).1
    simp only [Hp.n_push] at hk
    rw [hcall] at h
    have hP := post_push (lo := g) (b := .loop { state := .ready, pending := none, tmps := st.T, params := ps.toList, assign := xa, body := xb })
      (obj := .loop { state := .ready, pending := none, fn, tmps := a.tmps, params := ps, assign := ca, body := cb, defers := r0'.defers }) (size := 0) hR (by omega)
      (w1 := w.alloc (.loop { state := .ready, pending := none, fn, tmps := a.tmps, params := ps, assign := ca, body := cb, defers := r0'.defers })) rfl ⟨rfl, rfl, rfl⟩
      ⟨_, nt, World.alloc_heap_new _ _, rfl, rfl, rfl, hps, ha, hb, hT.mono (ext_ins (hR.fresh (by omega)))⟩
    exact range_core (l := st.A.n) (e := ⟨w.heap.size, 0, 0⟩) (nt := nt) (mark := []) hcf hu hlab r1 r2 hcall (by omega) (run_enterLoop_inner hw0 _ _ _ _ _) hP (ins_same _ _ _) (hR.fresh (by omega)) h hT (hD.mono hP.ext) hQ
end
end Go.Ab
namespace Go.Ab
def AllFrom (p : Nat → Prop) : Nat → Nat → Prop
  | _, 0 => True
  | i, n + 1 => p i ∧ AllFrom p (i + 1) n
theorem AllFrom.at {p : Nat → Prop} : ∀ {n i : Nat}, AllFrom p i n → ∀ k, i ≤ k → k < i + n → p k := by
  intro n
  induction n with
  | zero => intro i _ k h1 h2; omega
  | succ n ih =>
    intro i h k h1 h2
    rcases Nat.lt_or_ge i k with h3 | h3
    · exact ih h.2 k h3 (by omega)
    · have : k = i := by omega
      exact this ▸ h.1
section
variable {E : Env} {nt : Nat} {cv : CallFn} {cf : Nat → Nat → List Value → Hp → Option (Value × Hp)}
theorem region_sound (hcv : CallSound E cv) (hck : CallKeeps cv) {id : Nat} {ops : Array Oper} {draw : Bool} {al : List AOper}
    (hc : compOpers E.P E.lab nt ops.toList draw (befA (ops.toList.map edgesOf)) 0 ops.toList = some al) (hd : (!draw || drawOk al (ops.toList.map edgesOf)) = true) :
    Sound E nt (fun g _ st => opsSt cv g al st) (wpc E (.region id ops draw)) := by
  intro g rd st ex st' h lim φ a w ro hlim hT hD hR hrd Q hQ
  replace h : opsSt cv g al st = some (ex, st') := h
  simp only [opsSt, Option.map_eq_some_iff] at h
  obtain ⟨⟨T', A'⟩, h, he⟩ := h
  cases he
  have hf := formed_of hc
  have fin : ∀ φ' a' w', RelT E.lab φ' nt T' a'.tmps → Post E lim φ st.A w g φ' A' w' → a'.defers = a.defers → Q .normal a' w' :=
    fun φ' a' w' k1 k2 k3 => hQ φ' a' w' k1 (by rw [k3]; exact hD.mono k2.ext) k2
  cases draw with
  | true => exact drawn_sound hcv hck hf (by simpa using hd) h hlim hT hR ro fin
  | false =>
    obtain ⟨s, h0, h1, h2⟩ := opsA_states h
    rw [hf.1] at h1
    refine wpIn_region ?_
    rw [List.range_eq_range']
    refine text_sound (lim := lim) (st := s) hcv hck (by rw [h1]; exact hlim) hf h2 ops.size 0 (by omega) φ a w (by rw [h0]; exact hT) (by rw [h0]; exact hR) ro Q fun φ' a' w' k1 k2 k3 => ?_
    rw [h1] at k1 k2
    rw [h0] at k2
    exact fin φ' a' w' k1 k2 k3
theorem code_sound (hcv : CallSound E cv) (hck : CallKeeps cv) (hcf : CfSound E cf) (hfk : FnKeeps cf) (m : Nat) : RunSound E (codeA cv cf m) := by
  intro nt c
  have hk := codeA_keeps hck hfk m
  induction c with
  | skip =>
    intro ac hc; cases hc
    intro g rd st ex st' h lim φ a w ro hlim hT hD hR hrd Q hQ
    cases h
    exact wpIn_skip (hQ φ a w hT hD (Post.refl hR))
  | label l =>
    intro ac hc; cases hc
    intro g rd st ex st' h lim φ a w ro hlim hT hD hR hrd Q hQ
    cases h
    exact wpIn_label (hQ φ a w hT hD (Post.refl hR))
  | exit id =>
    intro ac hc; cases hc
    intro g rd st ex st' h lim φ a w ro hlim hT hD hR hrd Q hQ
    cases h
    exact wpIn_exit (hQ φ a w hT hD (Post.refl hR))
  | ret =>
    intro ac hc; cases hc
    intro g rd st ex st' h lim φ a w ro hlim hT hD hR hrd Q hQ
    cases h
    exact wpIn_ret (hQ φ a w hT hD (Post.refl hR))
  | region id ops draw =>
    intro ac hc
    simp only [compCode] at hc
    split at hc
    · rename_i al hal
      split at hc
      · rename_i hd
        cases hc
        exact region_sound hcv hck hal hd
      · cases hc
    · cases hc
  | seq x y ihx ihy =>
    intro ac hc
    simp only [compCode] at hc
    split at hc
    · rename_i ax ay hx hy
      cases hc
      intro g rd st ex st' h lim φ a w ro hlim hT hD hR hrd Q hQ
      exact wpIn_seq (then_sound (ihx ax hx) (ihy ay hy) (hk ay) g rd st ex st' h lim φ a w ro hlim hT hD hR hrd Q hQ)
    · cases hc
  | cond c x y ihx ihy =>
    intro ac hc
    simp only [compCode] at hc
    split at hc
    · rename_i z ax ay hz hx hy
      cases hc
      intro g rd st ex st' h lim φ a w ro hlim hT hD hR hrd Q hQ
      replace h : condA (codeA cv cf m ax) (codeA cv cf m ay) g rd st (ev st.T z) = some (ex, st') := h
      have hz' := hT.eval hz
      unfold condA at h
      split at h
      · rename_i hev
        rw [hev] at hz'
        exact wpIn_cond_true (bool_inv hz') (ihx ax hx g rd st ex st' h lim φ a w ro hlim hT hD hR hrd Q hQ)
      · rename_i hev
        rw [hev] at hz'
        exact wpIn_cond_false (bool_inv hz') (ihy ay hy g rd st ex st' h lim φ a w ro hlim hT hD hR hrd Q hQ)
      · cases h
    · cases hc
  | block id c ih =>
    intro ac hc
    simp only [compCode, Option.map_eq_some_iff] at hc
    obtain ⟨x, hx, rfl⟩ := hc
    intro g rd st ex st' h lim φ a w ro hlim hT hD hR hrd Q hQ
    replace h : inBlk id (codeA cv cf m x g rd st) = some (ex, st') := h
    refine wpIn_block ?_
    cases hr : codeA cv cf m x g rd st with
    | none => rw [hr] at h; cases h
    | some r =>
      obtain ⟨ex1, st1⟩ := r
      rw [hr] at h
      cases ex1 with
      | normal => cases h; exact ih x hx g rd st _ _ hr lim φ a w ro hlim hT hD hR hrd _ hQ
      | ret => cases h; exact ih x hx g rd st _ _ hr lim φ a w ro hlim hT hD hR hrd _ hQ
      | exit i =>
        simp only [inBlk] at h
        split at h
        · rename_i hi
          cases h
          refine ih x hx g rd st _ _ hr lim φ a w ro hlim hT hD hR hrd _ fun φ' a' w' k1 k2 k3 => ?_
          show (if i = id then Q .normal a' w' else Q (.exit i) a' w')
          rw [if_pos hi]; exact hQ φ' a' w' k1 k2 k3
        · rename_i hi
          cases h
          refine ih x hx g rd st _ _ hr lim φ a w ro hlim hT hD hR hrd _ fun φ' a' w' k1 k2 k3 => ?_
          show (if i = id then Q .normal a' w' else Q (.exit i) a' w')
          rw [if_neg hi]; exact hQ φ' a' w' k1 k2 k3
  | loop c ih =>
    intro ac hc
    simp only [compCode, Option.map_eq_some_iff] at hc
    obtain ⟨x, hx, rfl⟩ := hc
    intro g rd st ex st' h lim φ a w ro hlim hT hD hR hrd Q hQ
    exact wpIn_loop_rounds m (iter_sound (ih x hx) (hk x) m g rd st ex st' h lim φ a w ro hlim hT hD hR hrd Q hQ)
  | rangeFunc f ps x y ihx ihy =>
    intro ac hc
    simp only [compCode] at hc
    split at hc
    · rename_i z ax ay hz hx hy
      split at hc
      · rename_i hps
        cases hc
        intro g rd st ex st' h
        exact range_sound hcf hfk hz hx hy (fun p hp => by simpa using List.all_eq_true.1 hps p hp) g rd st ex st' h
      · cases hc
    · cases hc
  | _ => intro ac hc; simp only [compCode] at hc; cases hc
theorem callV_sound {K : Nat → Option Spec} {run : ACode → RunFn} (hK : SpecsOk E K) (hrun : RunSound E run) (hk : ∀ c, RunKeeps (run c)) : CallSound E (callV E.AP K run) := by
  intro g f args A v A' h
  unfold callV at h
  split at h
  · rename_i hh first captured
    rcases callF_sound hK hrun hk h with ⟨hap, hs⟩ | ⟨hap, hs, hA⟩
    · exact .inl ⟨hh, first, captured, rfl, hap, hs⟩
    · exact .inr (.inl ⟨hh, first, captured, rfl, hap, hs, hA⟩)
  · exact .inr (.inr ⟨_, rfl, round_sound hrun hk h⟩)
  · cases h
theorem exec_sound {K : Nat → Option Spec} (hK : SpecsOk E K) (m : Nat) : ∀ d, RunSound E (exec E.AP K m d) := by
  intro d
  induction d with
  | zero => intro nt c ac _ g rd st ex st' h; cases h
  | succ d ih =>
    have hk := exec_keeps (AP := E.AP) hK.keeps m d
    exact code_sound (callV_sound hK ih hk) (callV_keeps hK.keeps hk) (fun _ _ _ _ _ _ h => callF_sound hK ih hk h) (callF_keeps hK.keeps hk) m
noncomputable def callA (AP : Nat → Option AFunc) (K : Nat → Option Spec) (m d : Nat) : Nat → Nat → List Value → Hp → Option (Value × Hp) := callF AP K (exec AP K m d)
theorem callA_sound {K : Nat → Option Spec} (hK : SpecsOk E K) {m d f g : Nat} {args : List Value} {A : Hp} {v : Value} {A' : Hp} (h : callA E.AP K m d g f args A = some (v, A')) (hf : ∃ nt rs body, E.AP f = some (.fn nt rs body)) :
    FnSound E g f args A v A' := by
  rcases callF_sound hK (exec_sound hK m d) (exec_keeps hK.keeps m d) h with ⟨_, hs⟩ | ⟨hap, _⟩
  · exact hs
  · obtain ⟨nt, rs, body, hfn⟩ := hf
    rw [hfn] at hap; cases hap
end
end Go.Ab
