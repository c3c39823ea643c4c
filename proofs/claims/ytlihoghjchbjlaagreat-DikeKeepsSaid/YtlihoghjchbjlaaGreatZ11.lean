/- What levels do to a section: the program's Hold. -/
import Derived.Test.YtlihoghjchbjlaaGreatZ09
import Derived.Test.YtlihoghjchbjlaaGreatZ10
import Derived.Test.YtlihoghjchbjlaaGreatZ08
import Derived.DataShut
set_option linter.unusedSimpArgs false
set_option linter.unusedVariables false
set_option linter.unusedSectionVars false
namespace Go.Ab.Dike
open Go Go.Ab
theorem perm_map_inv {α β : Type} {f : α → β} {l2 l3 : List β} (h : l2.Perm l3) : ∀ {l : List α}, l.map f = l2 → ∃ l1, l.Perm l1 ∧ l1.map f = l3 := by
  induction h with
  | nil => intro l h; exact ⟨l, .refl _, h⟩
  | cons x _ ih =>
    intro l h
    cases l with
    | nil => simp at h
    | cons y l =>
      simp only [List.map_cons, List.cons.injEq] at h
      obtain ⟨l1, h1, h2⟩ := ih h.2
      exact ⟨y :: l1, h1.cons y, by simp [h.1, h2]⟩
  | swap x y _ =>
    intro l h
    match l, h with
    | a :: b :: l, h =>
      simp only [List.map_cons, List.cons.injEq] at h
      exact ⟨b :: a :: l, .swap _ _ _, by simp [h.1, h.2.1, h.2.2]⟩
  | trans _ _ ih1 ih2 =>
    intro l h
    obtain ⟨l1, h1, h2⟩ := ih1 h
    obtain ⟨l3, h3, h4⟩ := ih2 h2
    exact ⟨l3, h1.trans h3, h4⟩
theorem lessB_asymm : ∀ (x y : List UInt8), lessB x y = true → lessB y x = false
  | _, [], h => by simp [lessB] at h
  | [], _ :: _, _ => by simp [lessB]
  | a :: x, b :: y, h => by
    simp only [lessB, Bool.or_eq_true, decide_eq_true_eq, Bool.and_eq_true, beq_iff_eq] at h
    simp only [lessB, Bool.or_eq_false_iff, decide_eq_false_iff_not, Bool.and_eq_false_iff]
    rcases h with h | ⟨h1, h2⟩
    · refine ⟨fun h' => absurd (UInt8.lt_trans h h') (UInt8.lt_irrefl _), .inl ?_⟩
      rw [beq_eq_false_iff_ne]
      rintro rfl; exact UInt8.lt_irrefl _ h
    · subst h1
      exact ⟨UInt8.lt_irrefl _, .inr (lessB_asymm x y h2)⟩
theorem lessB_anti : ∀ (x y : List UInt8), lessB x y = false → lessB y x = false → x = y
  | [], [], _, _ => rfl
  | _ :: _, [], _, h => by simp [lessB] at h
  | [], _ :: _, h, _ => by simp [lessB] at h
  | a :: x, b :: y, h, h' => by
    simp only [lessB, Bool.or_eq_false_iff, decide_eq_false_iff_not, Bool.and_eq_false_iff] at h h'
    have hab : a = b := UInt8.le_antisymm (UInt8.not_lt.1 h'.1) (UInt8.not_lt.1 h.1)
    subst hab
    simp at h h'
    rw [lessB_anti x y h h']
theorem lessB_trans : ∀ (x y z : List UInt8), lessB x z = true → lessB y z = false → lessB x y = true
  | x, y, [], h, _ => by cases x <;> simp [lessB] at h
  | x, [], c :: z, _, h' => by simp [lessB] at h'
  | [], b :: y, c :: z, _, _ => by simp [lessB]
  | a :: x, b :: y, c :: z, h, h' => by
    simp only [lessB, Bool.or_eq_true, decide_eq_true_eq, Bool.and_eq_true, beq_iff_eq] at h
    simp only [lessB, Bool.or_eq_false_iff, decide_eq_false_iff_not, Bool.and_eq_false_iff] at h'
    simp only [lessB, Bool.or_eq_true, decide_eq_true_eq, Bool.and_eq_true, beq_iff_eq]
    have hcb : c ≤ b := UInt8.not_lt.1 h'.1
    rcases h with h | ⟨h1, h2⟩
    · exact .inl (UInt8.lt_of_lt_of_le h hcb)
    · subst h1
      rcases UInt8.lt_or_eq_of_le hcb with h3 | h3
      · exact .inl h3
      · subst h3
        right
        refine ⟨rfl, lessB_trans x y z h2 ?_⟩
        rcases h'.2 with h4 | h4
        · simp at h4
        · exact h4
theorem strLt_asymm {x y : ByteArray} (h : strLt x y = true) : strLt y x = false := lessB_asymm _ _ h
theorem strLt_anti {x y : ByteArray} (h : strLt x y = false) (h' : strLt y x = false) : x = y := by
  have := lessB_anti _ _ h h'
  obtain ⟨a⟩ := x
  obtain ⟨b⟩ := y
  have : a = b := Array.toList_inj.1 this
  rw [this]
theorem strLt_trans {x y z : ByteArray} (h : strLt x z = true) (h' : strLt y z = false) : strLt x y = true := lessB_trans _ _ _ h h'
theorem insR_comm (x y : ByteArray) : ∀ l, insR x (insR y l) = insR y (insR x l)
  | [] => by
    by_cases hxy : strLt x y = true
    · simp [insR, hxy, strLt_asymm hxy]
    · by_cases hyx : strLt y x = true
      · simp [insR, hyx, strLt_asymm hyx]
      · have := strLt_anti (by simpa using hxy) (by simpa using hyx)
        subst this; rfl
  | z :: t => by
    by_cases hx : strLt x z = true
    · by_cases hy : strLt y z = true
      · simp [insR, hx, hy, insR_comm x y t]
      · have h1 : strLt x y = true := strLt_trans hx (by simpa using hy)
        simp [insR, hx, hy, h1]
    · by_cases hy : strLt y z = true
      · have h1 : strLt y x = true := strLt_trans hy (by simpa using hx)
        simp [insR, hx, hy, h1]
      · by_cases hxy : strLt x y = true
        · simp [insR, hx, hy, hxy, strLt_asymm hxy]
        · by_cases hyx : strLt y x = true
          · simp [insR, hx, hy, hyx, strLt_asymm hyx]
          · have := strLt_anti (by simpa using hxy) (by simpa using hyx)
            subst this; rfl
theorem insAll_perm {l l' : List ByteArray} (h : l.Perm l') : ∀ rp, insAll rp l = insAll rp l' := by
  induction h with
  | nil => intro rp; rfl
  | cons x _ ih => intro rp; exact ih _
  | swap x y l => intro rp; simp only [insAll]; rw [insR_comm]
  | trans _ _ ih1 ih2 => intro rp; rw [ih1, ih2]
def srt (l : List ByteArray) : List ByteArray := (insAll [] l).reverse
theorem srt_perm {l l' : List ByteArray} (h : l.Perm l') : srt l = srt l' := by rw [srt, srt, insAll_perm h]
def hasS (x : ByteArray) (cs : List ByteArray) : Bool := cs.any fun y => strEq x y
def addS (x : ByteArray) (cs : List ByteArray) : List ByteArray := if hasS x cs = true then cs else cs ++ [x]
def setS : List ByteArray → List ByteArray → List ByteArray
  | cs, [] => cs
  | cs, x :: l => setS (addS x cs) l
theorem hasS_iff {x : ByteArray} {cs : List ByteArray} : hasS x cs = true ↔ x ∈ cs := by
  simp [hasS, strEq_iff]
theorem mem_addS {x y : ByteArray} {cs : List ByteArray} : y ∈ addS x cs ↔ y ∈ cs ∨ y = x := by
  unfold addS
  split
  · rename_i h
    rw [hasS_iff] at h
    constructor
    · exact .inl
    · rintro (h1 | rfl)
      · exact h1
      · exact h
  · simp
theorem nodup_addS {x : ByteArray} {cs : List ByteArray} (h : cs.Nodup) : (addS x cs).Nodup := by
  unfold addS
  split
  · exact h
  · rename_i hx
    rw [hasS_iff] at hx
    refine List.nodup_append.2 ⟨h, by simp, fun a ha b hb => ?_⟩
    simp only [List.mem_singleton] at hb
    subst hb
    rintro rfl; exact hx ha
theorem setS_spec : ∀ (l cs : List ByteArray), cs.Nodup → (setS cs l).Nodup ∧ ∀ y, y ∈ setS cs l ↔ y ∈ cs ∨ y ∈ l
  | [], cs, h => ⟨h, fun y => by simp [setS]⟩
  | x :: l, cs, h => by
    obtain ⟨h1, h2⟩ := setS_spec l (addS x cs) (nodup_addS h)
    refine ⟨h1, fun y => ?_⟩
    rw [setS, h2, mem_addS]
    simp [or_assoc]
theorem setS_length {l l' : List ByteArray} (h : l.Perm l') : (setS [] l).length = (setS [] l').length := by
  obtain ⟨h1, h2⟩ := setS_spec l [] (by simp)
  obtain ⟨h3, h4⟩ := setS_spec l' [] (by simp)
  refine List.Perm.length_eq ((List.perm_ext_iff_of_nodup h1 h3).2 fun y => ?_)
  rw [h2, h4, h.mem_iff]
end Go.Ab.Dike
namespace Go.Ab.Dike
open Go Go.Ab
def bools (l : List Bool) : List Value := l.map .bool
@[simp] theorem bools_length (l : List Bool) : (bools l).length = l.length := by simp [bools]
theorem bools_at {l : List Bool} {i : Nat} (h : i < l.length) : cellAt (bools l) i = some (.bool l[i]) := by
  rw [cellAt_get]; simp [bools, h]
section
variable {K : Nat → Option Spec} (hK : KOk K) {g : Nat} {rd : Option Nat} {T : List Value} {D : List Nat} {A : Hp} {Q : Ex → St → Prop} {V : Value → Hp → Prop}
theorem loop203 {n : Nat} {bs : List Bool} {dv : Value} {b : Bool} (hd : RdS A 1 n (bools bs) dv) (hl : bs.length = n) (hn : n < 1000000) : ∀ (k i : Nat) {T : List Value}, i + k = n → (∀ j (h : j < bs.length), j < i → bs[j] ≠ b) → tget T 0 = dv → tget T 1 = .bool b → tget T 7 = .int .i64 n → tget T 8 = .int .i64 i →
    (∀ T' j, j < n → b ∈ bs → tget T' 4 = .int .i64 (j : Nat) → Q .ret ⟨T', D, A⟩) → (b ∉ bs → ∀ T', Q (.exit 0) ⟨T', D, A⟩) → W AP K g rd (.loop body203) ⟨T, D, A⟩ Q := by
  intro k
  induction k with
  | zero =>
    intro i T hi hno h0 h1 h7 h8 hf hq
    rw [W_loop]
    have : ¬ ((i : Int) < n) := by omega
    simp (disch := as_aux_lemma => first | omega | simp only [hDs] <;> omega | simp [isCell]) [hRs, takeMarks, resA, resAll, resOne, Value.cells, body203, h7, h8, this]
    refine hq (fun hm => ?_) _
    obtain ⟨j, hj, he⟩ := List.getElem_of_mem hm
    exact hno j hj (by omega) he
  | succ k ih =>
    intro i T hi hno h0 h1 h7 h8 hf hq
    rw [W_loop]
    have hlt : ((i : Int) < n) := by omega
    obtain ⟨bl, c, ro, rfl, hA⟩ := hd.at (i := i) (by omega)
    have e1 := bools_at (l := bs) (i := i) (by omega)
    have e2 := wrId (n := (i : Int) + 1) (by omega) (by omega)
    by_cases hb : bs[i]'(by omega) = b
    · simp (disch := as_aux_lemma => first | omega | simp only [hDs] <;> omega | simp [isCell]) [hRs, takeMarks, resA, resAll, resOne, Value.cells, body203, h7, h8, h0, h1, hlt, idxSA_ok, hA, e1, hb]
      exact hf _ i (by omega) (hb ▸ List.getElem_mem _) (by simp)
    · have hb' : (b == bs[i]'(by omega)) = false := by cases b <;> cases h : bs[i]'(by omega) <;> simp_all
      simp (disch := as_aux_lemma => first | omega | simp only [hDs] <;> omega | simp [isCell]) [hRs, takeMarks, resA, resAll, resOne, Value.cells, body203, h7, h8, h0, h1, hlt, idxSA_ok, hA, e1, hb', e2]
      refine ih (i + 1) (by omega) (fun j hj hji => ?_) (by simp [h0]) (by simp [h1]) (by simp [h7]) (by simp) hf hq
      rcases Nat.lt_or_ge j i with h | h
      · exact hno j hj h
      · have : j = i := by omega
        subst this; exact hb
include hK
theorem w203 {n : Nat} {bs : List Bool} {dv : Value} {b : Bool} (hd : RdS A 1 n (bools bs) dv) (hl : bs.length = n) (hn : n < 1000000) (hV : ∀ k : Int, (0 ≤ k ↔ b ∈ bs) → V (.int .i64 k) A) : WF AP K g 203 [dv, .bool b] A V := by
  rw [WF_body (hK.free 203 rfl) (show AP 203 = some F203 from rfl)]
  simp (disch := as_aux_lemma => first | omega | simp only [hDs] <;> omega | simp [isCell]) [hRs, takeMarks, resA, resAll, resOne, Value.cells, F203, hd.len]
  refine loop203 (b := b) hd hl hn n 0 (by omega) (fun j _ h => absurd h (Nat.not_lt_zero _)) (by simp) (by simp) (by simp) (by simp) (fun T' j hj hm h4 => ?_) (fun hm T' => ?_)
  · simp (disch := as_aux_lemma => first | omega | simp only [hDs] <;> omega | simp [isCell]) [hRs, takeMarks, resA, resAll, resOne, Value.cells, h4]
    exact hV _ ⟨fun _ => hm, fun _ => by omega⟩
  · simp (disch := as_aux_lemma => first | omega | simp only [hDs] <;> omega | simp [isCell]) [hRs, takeMarks, resA, resAll, resOne, Value.cells]
    exact hV _ ⟨fun h => by omega, fun h => absurd h hm⟩
theorem w190 {n : Nat} {bs : List Bool} {dv : Value} {b : Bool} (hd : RdS A 1 n (bools bs) dv) (hl : bs.length = n) (hn : n < 1000000) (hV : V (.bool (decide (b ∈ bs))) A) : WF AP K g 190 [dv, .bool b] A V := by
  rw [WF_body (hK.free 190 rfl) (show AP 190 = some F190 from rfl)]
  simp (disch := as_aux_lemma => first | omega | simp only [hDs] <;> omega | simp [isCell]) [hRs, takeMarks, resA, resAll, resOne, Value.cells, F190]
  refine w203 hK hd hl hn fun k hk => ?_
  simp (disch := as_aux_lemma => first | omega | simp only [hDs] <;> omega | simp [isCell]) [hRs, takeMarks, resA, resAll, resOne, Value.cells]
  have : decide (0 ≤ k) = decide (b ∈ bs) := by simp [hk]
  rw [this]; exact hV
theorem w189 {x : Nat} {made : Bool} {cs : List Value} {ro : Bool} (hx : A.get x = some (.cells (.bool made :: cs) ro)) (hV : V (.bool made) A) : WF AP K g 189 [.pointer (some ⟨x, 0, none⟩)] A V := by
  rw [WF_body (hK.free 189 rfl) (show AP 189 = some F189 from rfl)]
  simp (disch := as_aux_lemma => first | omega | simp only [hDs] <;> omega | simp [isCell]) [hRs, takeMarks, resA, resAll, resOne, Value.cells, F189, eqNilA, isNil, hx]
  exact hV
theorem w189_nil (hV : V (.bool false) A) : WF AP K g 189 [.pointer none] A V := by
  rw [WF_body (hK.free 189 rfl) (show AP 189 = some F189 from rfl)]
  simp (disch := as_aux_lemma => first | omega | simp only [hDs] <;> omega | simp [isCell]) [hRs, takeMarks, resA, resAll, resOne, Value.cells, F189, eqNilA, isNil]
  exact hV
end
def crewM (cs : List ByteArray) : List (Value × Value) := cs.map fun s => (.string s, .bool true)
theorem setM_crew (s : ByteArray) : ∀ cs, setM (.string s) (.bool true) (crewM cs) = some (crewM (addS s cs))
  | [] => by simp [crewM, setM, addS, hasS]
  | c :: cs => by
    have ih := setM_crew s cs
    simp only [crewM, List.map_cons, setM, keyEq]
    cases h : strEq s c with
    | true =>
      have : addS s (c :: cs) = c :: cs := by simp [addS, hasS, h]
      rw [this]
      have : s = c := strEq_iff.1 h
      subst this
      rfl
    | false =>
      have e : addS s (c :: cs) = c :: addS s cs := by
        unfold addS hasS
        simp only [List.any_cons, h, Bool.false_or]
        split <;> rfl
      simp only [crewM] at ih
      rw [ih, e]
      rfl
end Go.Ab.Dike
namespace Go.Ab.Dike
open Go Go.Ab
abbrev Seen := ByteArray × ByteArray × Bool
def encE (e : Seen) : Value × Value := (.string e.1, .agg ⟨[.string e.2.1, .bool e.2.2]⟩)
def rest149 : ACode := (.seq
 (.seq
 (.ops [
oF 21 7 1,
oL 22 21,
oP 23 (.not (.t 22))])
 (.cond (.t 23)
 (.seq
 (.ops [
oP 2 (.move (.k (.bool false))),
oP 3 (.move (.k (.slice none 0 0))),
oP 4 (.move (oK 0))])
 .ret)
 .skip))
 (.ops [
oM 24 5,
oF 25 7 0,
oL 26 25,
⟨none, none, [], .mapSet (.t 24) (.t 26) (.k (.bool true)) 1⟩]))
def U149 : MapCode := ⟨0, 1, 16, 17, 18, 19, [oX 20 19 1, ⟨some 7, none, [], .alloc [.string ⟨⟨[]⟩⟩, .bool false]⟩, oT 7 20 2], rest149⟩
section
variable {K : Nat → Option Spec} {g : Nat} {rd : Option Nat} {D : List Nat} {Q : Ex → St → Prop}
theorem rest_ok {T : List Value} {A : Hp} {cm : Nat} {x7 : Nat} {cr : ByteArray} {cl : Bool} {cs : List ByteArray} (h5 : tget T 5 = .map (some cm)) (h7 : tget T 7 = .pointer (some ⟨x7, 0, none⟩)) (hx : A.get x7 = some (.cells [.string cr, .bool cl] false)) (hc : A.get cm = some (.map (crewM cs) none)) (hg : g ≤ cm)
    (hret : cl = false → ∀ T', tget T' 2 = .bool false → tget T' 3 = .slice none 0 0 → tget T' 4 = .int .i64 0 → Q .ret ⟨T', D, A⟩)
    (hq : cl = true → ∀ T', tget T' 0 = tget T 0 → tget T' 5 = tget T 5 → tget T' 16 = tget T 16 → Q .normal ⟨T', D, A.set cm (some (.map (crewM (addS cr cs)) none))⟩) : W AP K g rd rest149 ⟨T, D, A⟩ Q := by
  cases cl with
  | false =>
    simp (disch := as_aux_lemma => first | omega | simp only [hDs] <;> omega | simp [isCell]) [hRs, takeMarks, resA, resAll, resOne, Value.cells, rest149, h5, h7, hx]
    exact hret rfl _ (by simp) (by simp) (by simp)
  | true =>
    simp (disch := as_aux_lemma => first | omega | simp only [hDs] <;> omega | simp [isCell]) [hRs, takeMarks, resA, resAll, resOne, Value.cells, rest149, h5, h7, hx, mapSetA, hc, keyFits, setM_crew, hg, storeV]
    exact hq rfl _ (by simp) (by simp) (by simp)
theorem iter149 {M : MapRun} {cm a0 : Nat} (hcm : a0 ≤ cm) (hg : g ≤ cm) (hcy : cm ≠ M.y) (hy0 : a0 ≤ M.y) (hcmm : cm ≠ M.m) (hym : M.y ≠ M.m) :
    ∀ (n : Nat) (eL : List Seen) (cs : List ByteArray) (T : List Value) (A : Hp) (gi : Option Nat × Nat × Array Nat × Nat), eL.length = n → tget T 16 = ptrY M.y → tget T 5 = .map (some cm) → M.held A → A.get M.y = some (.iter gi) → A.get cm = some (.map (crewM cs) none) →
      ((∃ e ∈ eL, e.2.2 = false) → ∀ T' A', tget T' 2 = .bool false → tget T' 3 = .slice none 0 0 → tget T' 4 = .int .i64 0 → Q .ret ⟨T', D, A'⟩) →
      (∀ T' A' ks, eL.Perm ks → (∀ e ∈ eL, e.2.2 = true) → tget T' 0 = tget T 0 → tget T' 5 = tget T 5 → A'.get cm = some (.map (crewM (setS cs (ks.map fun e => e.2.1))) none) → A.n ≤ A'.n → A'.get M.m = some (.map M.l M.lk) → (∀ x, x < a0 → x ≠ M.m → A'.get x = A.get x) → Q .normal ⟨T', D, A'⟩) →
      WN AP K tf (.iter true g rd U149 M (eL.map encE) ⟨T, D, A⟩ Q) := by
  intro n
  induction n with
  | zero =>
    intro eL cs T A gi hl h16 h5 hh hy hc hret hq
    obtain rfl := List.eq_nil_of_length_eq_zero hl
    have hf : ∀ x, (M.free A).get x = if x = M.m then some (.map M.l M.lk) else A.get x := fun x => Hp.get_set hh _ x
    refine .over h16 ⟨hh, hq _ (M.free A) [] (.refl _) (by simp) (by simp [overT, U149]) (by simp [overT, U149]) ?_ (Nat.le_refl _) (by rw [hf, if_pos rfl]) fun x _ hx => by rw [hf, if_neg hx]⟩
    rw [hf, if_neg hcmm]; exact hc
  | succ n ih =>
    intro eL cs T A gi hl h16 h5 hh hy hc hret hq
    have hyn := Hp.lt_of_get hy
    have hcn := Hp.lt_of_get hc
    refine .step (R := fun k v left' gi' T2 A2 => ∀ cr cl, v = .agg ⟨[.string cr, .bool cl]⟩ → tget T2 0 = tget T 0 ∧ tget T2 5 = .map (some cm) ∧ tget T2 16 = ptrY M.y ∧ tget T2 7 = .pointer (some ⟨A.n, 0, none⟩) ∧ A2 = (A.set M.y (some (.iter gi'))).push (.cells [.string cr, .bool cl] false))
      (Q1 := fun k v left' gi' ex st' => ∃ e : Seen, (k, v) = encE e ∧ st'.D = D ∧ ((ex = .ret ∧ e.2.2 = false ∧ tget st'.T 2 = .bool false ∧ tget st'.T 3 = .slice none 0 0 ∧ tget st'.T 4 = .int .i64 0 ∧ M.held st'.A) ∨
        (ex = .normal ∧ e.2.2 = true ∧ tget st'.T 0 = tget T 0 ∧ tget st'.T 5 = .map (some cm) ∧ tget st'.T 16 = ptrY M.y ∧ st'.A.get cm = some (.map (crewM (addS e.2.1 cs)) none) ∧ A.n ≤ st'.A.n ∧ M.held st'.A ∧ st'.A.get M.y = some (.iter gi') ∧ ∀ x, x < a0 → x ≠ M.m → st'.A.get x = A.get x)))
      (by intro h; have : eL = [] := by simpa using h
          subst this; simp at hl) ⟨by decide, by decide⟩ h16 ?_ ?_ ?_ ?_ ?_ ?_
    · intro k v left' gi' hp
      obtain ⟨l1, h1, h2⟩ := perm_map_inv hp rfl
      match l1, h2 with
      | e :: l2, h2 =>
        simp only [List.map_cons, List.cons.injEq] at h2
        obtain ⟨⟨h3, h4⟩, h5'⟩ := (⟨⟨congrArg Prod.fst h2.1, congrArg Prod.snd h2.1⟩, h2.2⟩ : (_ ∧ _) ∧ _)
        simp only [encE] at h3 h4
        subst h4
        simp (disch := as_aux_lemma => first | omega | simp only [hDs] <;> omega | simp [isCell]) [hRs, takeMarks, resA, resAll, resOne, Value.cells, U149, stepT, h5, h16, storeB_cells, setRange]
        exact set_push_new (A := A.set M.y (some (.iter gi')))
    · rintro k v left' gi' T2 A2 hp hR
      obtain ⟨l1, h1, h2⟩ := perm_map_inv hp rfl
      match l1, h2 with
      | e :: l2, h2 =>
        simp only [List.map_cons, List.cons.injEq] at h2
        have hkv : (k, v) = encE e := h2.1.symm
        have hv : v = .agg ⟨[.string e.2.1, .bool e.2.2]⟩ := congrArg Prod.snd hkv
        obtain ⟨r0, r5, r16, r7, rfl⟩ := hR _ _ hv
        have hset : ∀ x, (A.set M.y (some (.iter gi'))).get x = if x = M.y then some (.iter gi') else A.get x := fun x => Hp.get_set hy _ x
        have hB : ∀ x, x < A.n → ((A.set M.y (some (.iter gi'))).push (.cells [.string e.2.1, .bool e.2.2] false)).get x = if x = M.y then some (.iter gi') else A.get x := fun x hx => by
          rw [get_push_old (by simpa using hx), hset]
        have hmn : M.m < A.n := Hp.lt_of_get hh
        have hBh : M.held ((A.set M.y (some (.iter gi'))).push (.cells [.string e.2.1, .bool e.2.2] false)) := by
          show _ = _
          rw [hB _ hmn, if_neg (Ne.symm hym)]; exact hh
        have hBc : ((A.set M.y (some (.iter gi'))).push (.cells [.string e.2.1, .bool e.2.2] false)).get cm = some (.map (crewM cs) none) := by rw [hB _ hcn, if_neg hcy]; exact hc
        refine .det (rest_ok (x7 := A.n) (cr := e.2.1) (cl := e.2.2) (cs := cs) r5 r7 (by rw [get_push_eq (by simp)]) hBc hg ?_ ?_)
        · intro hcl T' h2' h3' h4'
          exact ⟨e, hkv, rfl, .inl ⟨rfl, hcl, h2', h3', h4', hBh⟩⟩
        · intro hcl T' h0' h5' h16'
          have hC : ∀ x b, (((A.set M.y (some (.iter gi'))).push (.cells [.string e.2.1, .bool e.2.2] false)).set cm b).get x = if x = cm then b else ((A.set M.y (some (.iter gi'))).push (.cells [.string e.2.1, .bool e.2.2] false)).get x := fun x b => Hp.get_set hBc b x
          refine ⟨e, hkv, rfl, .inr ⟨rfl, hcl, by rw [h0', r0], by rw [h5', r5], by rw [h16', r16], by rw [hC, if_pos rfl], by simp, ?_, ?_, fun x hx hxm => ?_⟩⟩
          · show _ = _
            rw [hC, if_neg (Ne.symm hcmm)]; exact hBh
          · rw [hC, if_neg (Ne.symm hcy), hB _ hyn, if_pos rfl]
          · rw [hC, if_neg (by omega), hB _ (by omega), if_neg (by omega)]
    · rintro k v left' gi' st' hp (⟨e, _, _, ⟨h, _⟩ | ⟨_, _, _, _, _, _, _, k1, k2, _⟩⟩ | ⟨e, _, _, ⟨h, _⟩ | ⟨h, _⟩⟩)
      · cases h
      · exact ⟨k1, k2⟩
      · cases h
      · cases h
    · rintro k v left' gi' ⟨T2, D2, A2⟩ hp (⟨e, hkv, rfl, ⟨h, _⟩ | ⟨_, kcl, k0, k5, k16, kc, kn, kh, ky, ko⟩⟩ | ⟨e, _, _, ⟨h, _⟩ | ⟨h, _⟩⟩)
      · cases h
      · obtain ⟨l1, h1, h2⟩ := perm_map_inv hp rfl
        match l1, h2 with
        | e' :: l2, h2 =>
          simp only [List.map_cons, List.cons.injEq] at h2
          have he : e' = e := by
            have : encE e' = encE e := h2.1.trans hkv
            obtain ⟨a, b, c⟩ := e
            obtain ⟨a', b', c'⟩ := e'
            simp [encE] at this
            simp [this]
          subst he
          have hl2 : l2.length = n := by have := h1.length_eq; simp at this; omega
          rw [← h2.2]
          refine ih l2 (addS e'.2.1 cs) T2 A2 gi' hl2 k16 k5 kh ky kc (fun ⟨f, hf, hf2⟩ => hret ⟨f, h1.mem_iff.2 (List.mem_cons_of_mem _ hf), hf2⟩) fun T' A' ks p1 p2 p3 p4 p5 p6 p7 p8 => ?_
          refine hq T' A' (e' :: ks) (h1.trans (p1.cons _)) (fun f hf => ?_) (by rw [p3]; exact k0) (by rw [p4, h5]; exact k5) p5 (by have : A.n ≤ A2.n := kn; omega) p7 fun x hx hxm => by rw [p8 x hx hxm, ko x hx hxm]
          rcases List.mem_cons.1 (h1.mem_iff.1 hf) with rfl | hf
          · exact kcl
          · exact p2 f hf
      · cases h
      · cases h
    · rintro k v left' gi' ⟨T2, D2, A2⟩ hp ⟨e, hkv, rfl, ⟨_, kcl, k2, k3, k4, kh⟩ | ⟨h, _⟩⟩
      · refine ⟨kh, hret ⟨e, ?_, kcl⟩ _ _ k2 k3 k4⟩
        have : encE e ∈ eL.map encE := hp.mem_iff.2 (by rw [← hkv]; simp)
        obtain ⟨e', he', hee⟩ := List.mem_map.1 this
        have : e' = e := by
          obtain ⟨a, b, c⟩ := e
          obtain ⟨a', b', c'⟩ := e'
          simp [encE] at hee
          simp [hee]
        exact this ▸ he'
      · cases h
    · rintro k v left' gi' i st' hp hi ⟨e, _, _, ⟨h, _⟩ | ⟨h, _⟩⟩ <;> cases h
end
end Go.Ab.Dike
namespace Go.Ab.Dike
open Go Go.Ab
def toldV (es : List Seen) (ship : Bool) (bs : List Bool) : Bool := (es.all fun e => e.2.2) && !ship && decide (2 ≤ (setS [] (es.map fun e => e.2.1)).length) && bs.all id
theorem bs_false {bs : List Bool} : decide (false ∈ bs) = !bs.all id := by
  rw [Bool.eq_iff_iff]
  simp
section
variable {K : Nat → Option Spec} (hK : KOk K) {g : Nat} {A : Hp} {V : Value → Hp → Prop}
include hK
theorem w192 {m : Nat} (hV : V (.func (.func 206) #[] #[.pointer (some ⟨A.n, 0, none⟩)]) (A.push (.cells [.map (some m)] false))) : WF AP K g 192 [.map (some m)] A V := by
  rw [WF_body (hK.free 192 rfl) (show AP 192 = some F192 from rfl)]
  simp (disch := as_aux_lemma => first | omega | simp only [hDs] <;> omega | simp [isCell]) [hRs, takeMarks, resA, resAll, resOne, Value.cells, F192]
  exact hV
theorem n149_nil (h149 : K 149 = none) (hV : V (.tuple ⟨[.bool false, .slice none 0 0, .int .i64 1]⟩) A) : WN AP K tf (.fn g 149 [.pointer none] A V) := by
  refine .detF ⟨_, _, _, show AP 149 = some F149 from rfl⟩ ?_
  rw [WF_body h149 (show AP 149 = some F149 from rfl)]
  simp (disch := as_aux_lemma => first | omega | simp only [hDs] <;> omega | simp [isCell]) [hRs, takeMarks, resA, resAll, resOne, Value.cells, F149]
  refine w189_nil hK ?_
  simp (disch := as_aux_lemma => first | omega | simp only [hDs] <;> omega | simp [isCell]) [hRs, takeMarks, resA, resAll, resOne, Value.cells]
  exact hV
theorem n149_un {x : Nat} {cs : List Value} {ro : Bool} (h149 : K 149 = none) (hx : A.get x = some (.cells (.bool false :: cs) ro)) (hV : V (.tuple ⟨[.bool false, .slice none 0 0, .int .i64 1]⟩) A) : WN AP K tf (.fn g 149 [.pointer (some ⟨x, 0, none⟩)] A V) := by
  refine .detF ⟨_, _, _, show AP 149 = some F149 from rfl⟩ ?_
  rw [WF_body h149 (show AP 149 = some F149 from rfl)]
  simp (disch := as_aux_lemma => first | omega | simp only [hDs] <;> omega | simp [isCell]) [hRs, takeMarks, resA, resAll, resOne, Value.cells, F149]
  refine w189 hK hx ?_
  simp (disch := as_aux_lemma => first | omega | simp only [hDs] <;> omega | simp [isCell]) [hRs, takeMarks, resA, resAll, resOne, Value.cells]
  exact hV
theorem n149 {x m : Nat} {lv dv lg tm : Value} {ship ro : Bool} {es : List Seen} {lk : Option (Array MapEntry × Nat)} {bs : List Bool} (h149 : K 149 = none) (h191 : K 191 = none) (hx : A.get x = some (.cells [.bool true, lv, dv, lg, .bool ship, .map (some m), tm] ro))
    (hm : A.get m = some (.map (es.map encE) lk)) (hd : RdS A 1 bs.length (bools bs) dv) (hes : es.length ≤ 12) (hbs : bs.length < 1000000) (hg : g ≤ A.n)
    (hno : toldV es ship bs = false → ∀ A', V (.tuple ⟨[.bool false, .slice none 0 0, .int .i64 0]⟩) A')
    (hyes : toldV es ship bs = true → ∀ A' sv, AccS A.n A' 1 (strs (srt (es.map fun e => e.1))) sv → V (.tuple ⟨[.bool true, sv, .int .i64 0]⟩) A') :
    WN AP K tf (.fn g 149 [.pointer (some ⟨x, 0, none⟩)] A V) := by
  have hxn := Hp.lt_of_get hx
  have hmn := Hp.lt_of_get hm
  refine WN_body h149 (show AP 149 = some F149 from rfl) ?_
  refine WN_seqd ?_
  simp (disch := as_aux_lemma => first | omega | simp only [hDs] <;> omega | simp [isCell]) [hRs, takeMarks, resA, resAll, resOne, Value.cells]
  refine WN_seqn (WN_seqd ?_)
  simp (disch := as_aux_lemma => first | omega | simp only [hDs] <;> omega | simp [isCell]) [hRs, takeMarks, resA, resAll, resOne, Value.cells]
  refine w189 hK hx ?_
  simp (disch := as_aux_lemma => first | omega | simp only [hDs] <;> omega | simp [isCell]) [hRs, takeMarks, resA, resAll, resOne, Value.cells]
  refine .det ?_
  simp (disch := as_aux_lemma => first | omega | simp only [hDs] <;> omega | simp [isCell]) [hRs, takeMarks, resA, resAll, resOne, Value.cells]
  refine WN_seqd ?_
  simp (disch := as_aux_lemma => first | omega | simp only [hDs] <;> omega | simp [isCell]) [hRs, takeMarks, resA, resAll, resOne, Value.cells]
  obtain ⟨T, hT⟩ : ∃ T : List Value, T = tset (tset (tset (tset (tset (tset (tset (tset [Value.pointer (some ⟨x, 0, none⟩)] 2 (.bool false)) 3 (.slice none 0 0)) 4 (.int .i64 0)) 8 (.pointer (some ⟨x, 0, none⟩))) 9 (.bool true)) 10 (.bool false)) 11 (.map (some A.n))) 5 (.map (some A.n)) := ⟨_, rfl⟩
  rw [← hT]
  obtain ⟨B, hB⟩ : ∃ B, B = A.push (.map [] none) := ⟨_, rfl⟩
  rw [← hB]
  have hBn : B.n = A.n + 1 := by rw [hB]; rfl
  have hBo : ∀ z, z < A.n → B.get z = A.get z := fun z hz => by rw [hB, get_push_old hz]
  have hT0 : tget T 0 = .pointer (some ⟨x, 0, none⟩) := by rw [hT]; simp
  have hT5 : tget T 5 = .map (some A.n) := by rw [hT]; simp
  have hBx : B.get x = _ := (hBo x hxn).trans hx
  have hBm : B.get m = _ := (hBo m hmn).trans hm
  refine WN_seqn ?_
  refine .map (U := U149) (pre := [oM 12 0, oP 13 (.nilCheck (.t 12)), oF 14 13 5, oL 15 14]) (x := .t 15) (R := fun T1 A1 => tget T1 0 = tget T 0 ∧ tget T1 5 = tget T 5 ∧ tget T1 15 = .map (some m) ∧ A1 = B) (m := fun _ _ => m) (l := fun _ _ => es.map encE) (lk := fun _ _ => lk) ?_ ?_ ?_
  · simp (disch := as_aux_lemma => first | omega | simp only [hDs] <;> omega | simp [isCell]) [hRs, takeMarks, resA, resAll, resOne, Value.cells, hT0, hBx]
  · rintro T1 A1 ⟨_, _, h15, rfl⟩
    exact ⟨h15, hBm⟩
  · rintro T1 A1 gh gi ⟨h0, h5, h15, rfl⟩ hlk
    have hget : (A1.push (.iter gi)).get m = some (.map (es.map encE) lk) := by rw [get_push_old (by omega)]; exact hBm
    have hset : ∀ z, ((A1.push (.iter gi)).set m (some (.map (es.map encE) (some gh)))).get z = if z = m then some (.map (es.map encE) (some gh)) else (A1.push (.iter gi)).get z := fun z => Hp.get_set hget _ z
    refine iter149 (cm := A.n) (a0 := A.n) (Nat.le_refl _) hg (by show A.n ≠ A1.n; omega) (by show A.n ≤ A1.n; omega) (by show A.n ≠ m; omega) (by show A1.n ≠ m; omega) es.length es [] _ _ gi rfl ?_ ?_ ?_ ?_ ?_ ?_ ?_
    · simp [U149]
    · simp [U149, h5, hT5]
    · show _ = _
      rw [hset, if_pos rfl]
    · show ((A1.push (.iter gi)).set m _).get A1.n = _
      rw [hset, if_neg (by omega), get_push_new]
    · rw [hset, if_neg (by omega), get_push_old (by omega), hB, get_push_new]; rfl
    · rintro ⟨e, he, hcl⟩ T' A' h2 h3 h4
      have hto : toldV es ship bs = false := by
        have : (es.all fun e => e.2.2) = false := by
          rw [Bool.eq_false_iff]
          intro h
          have := List.all_eq_true.1 h e he
          rw [hcl] at this; cases this
        simp [toldV, this]
      simp (disch := as_aux_lemma => first | omega | simp only [hDs] <;> omega | simp [isCell]) [hRs, takeMarks, resA, resAll, resOne, Value.cells, h2, h3, h4]
      exact hno hto _
    · intro T' A' ks hks hall h0' h5' hcm hn' hm' ho'
      have hm2 : A'.get m = some (.map (es.map encE) lk) := hm'
      have hAll : ∀ z, z < A.n → A'.get z = A.get z := fun z hz => by
        by_cases hzm : z = m
        · subst hzm; rw [hm2, hm]
        · rw [ho' z hz hzm, hset, if_neg hzm, get_push_old (by omega), hBo z hz]
      have hx2 : A'.get x = _ := (hAll x hxn).trans hx
      have hd2 := hd.mono hAll
      have hcnt : (crewM (setS [] (ks.map fun e => e.2.1))).length = (setS [] (es.map fun e => e.2.1)).length := by
        have := setS_length (hks.map fun e : Seen => e.2.1)
        simp only [crewM, List.length_map]
        exact this.symm
      have hlen : lenMA A' (.map (some A.n)) = some (.int .i64 ((setS [] (es.map fun e => e.2.1)).length : Nat)) := by
        simp only [lenMA, mapOf, hcm, Option.map_some, goInt]
        rw [hcnt]
      have hA'n : A.n ≤ A'.n := by simp at hn'; omega
      simp at h0' h5'
      replace h0' : tget T' 0 = .pointer (some ⟨x, 0, none⟩) := by rw [h0']; simp [U149, h0, hT0]
      replace h5' : tget T' 5 = .map (some A.n) := by rw [h5']; simp [U149, h5, hT5]
      generalize hc : (setS [] (es.map fun e => e.2.1)).length = c at hlen
      simp (disch := as_aux_lemma => first | omega | simp only [hDs] <;> omega | simp [isCell]) [hRs, takeMarks, resA, resAll, resOne, Value.cells]
      refine WN_seqn (WN_seqd ?_)
      have hall2 : (es.all fun e => e.2.2) = true := List.all_eq_true.2 hall
      have fin : ∀ T2, tget T2 0 = .pointer (some ⟨x, 0, none⟩) → toldV es ship bs = true → WN AP K tf (.code (tf 149) g none
          (.seq (.ops ([oM 43 0, oP 44 (.nilCheck (.t 43)), oF 45 44 5, oL 46 45, oA 47 192 [.t 46] false] ++ oA 48 191 [.t 47] false ::
            [oP 2 (.move (.k (.bool true))), oM 3 48, oP 4 (.move (oK 0))])) .ret) ⟨T2, [], A'⟩ (FinQ [.tmp 2, .tmp 3, .tmp 4] V)) := by
        intro T2 hT20 hto
        refine WN_seqn (WN.call (h := fun _ _ => 191) (vs := fun _ _ => [.func (.func 206) #[] #[.pointer (some ⟨A'.n, 0, none⟩)]]) (R := fun T3 A3 => tget T3 47 = .func (.func 206) #[] #[.pointer (some ⟨A'.n, 0, none⟩)] ∧ A3 = A'.push (.cells [.map (some m)] false))
          (V := fun _ _ v A4 => AccS A.n A4 1 (strs (srt (es.map fun e => e.1))) v) ?_ ?_ ?_ ?_)
        · simp (disch := as_aux_lemma => first | omega | simp only [hDs] <;> omega | simp [isCell]) [hRs, takeMarks, resA, resAll, resOne, Value.cells, hT20, hx2]
          refine w192 hK ?_
          simp (disch := as_aux_lemma => first | omega | simp only [hDs] <;> omega | simp [isCell]) [hRs, takeMarks, resA, resAll, resOne, Value.cells]
        · rintro T3 A3 ⟨h47, rfl⟩
          exact ⟨[], [], rfl, by simp [h47]⟩
        · rintro T3 A3 ⟨h47, rfl⟩
          refine n191 hK (bx := A'.n) (m := m) (ro := false) (l := es.map encE) (lk := lk) h191 (by rw [get_push_new]) (by rw [get_push_old (Hp.lt_of_get hm2)]; exact hm2) ?_ (by simpa using hes) (by simp; omega) fun A4 sv ks2 hp hacc => ?_
          · intro p hp
            obtain ⟨e, _, rfl⟩ := List.mem_map.1 hp
            exact ⟨e.1, rfl⟩
          · have : ks2.Perm (es.map fun e => e.1) := by
              have e1 : (es.map encE).map Prod.fst = (es.map fun e => e.1).map Value.string := by simp [encE]
              rw [e1] at hp
              obtain ⟨l1, h1, h2⟩ := perm_map_inv hp rfl
              have : l1 = es.map fun e => e.1 := (List.map_inj_right (fun _ _ h => by cases h; rfl)).1 h2
              rw [← this]; exact h1
            rw [← srt_perm this]
            exact hacc.weaken (by simp; omega)
        · rintro T3 A3 v A4 ⟨h47, rfl⟩ hacc
          obtain ⟨p, n1, c1, rfl⟩ := hacc.isSlice
          simp (disch := as_aux_lemma => first | omega | simp only [hDs] <;> omega | simp [isCell]) [hRs, takeMarks, resA, resAll, resOne, Value.cells]
          refine .det ?_
          simp (disch := as_aux_lemma => first | omega | simp only [hDs] <;> omega | simp [isCell]) [hRs, takeMarks, resA, resAll, resOne, Value.cells]
          exact hyes hto A4 _ hacc
      cases ship with
      | true =>
        simp (disch := as_aux_lemma => first | omega | simp only [hDs] <;> omega | simp [isCell]) [hRs, takeMarks, resA, resAll, resOne, Value.cells, h0', hx2]
        refine .det ?_
        simp (disch := as_aux_lemma => first | omega | simp only [hDs] <;> omega | simp [isCell]) [hRs, takeMarks, resA, resAll, resOne, Value.cells]
        exact hno (by simp [toldV]) _
      | false =>
        simp (disch := as_aux_lemma => first | omega | simp only [hDs] <;> omega | simp [isCell]) [hRs, takeMarks, resA, resAll, resOne, Value.cells, h0', h5', hx2, hlen]
        have e190 : (∀ V' : Value → Hp → Prop, V' (.bool (!bs.all id)) A' → WF AP K g 190 [dv, .bool false] A' V') := fun V' hV' => w190 hK hd2 rfl hbs (by rw [bs_false]; exact hV')
        by_cases hc2 : (c : Int) < 2
        · simp (disch := as_aux_lemma => first | omega | simp only [hDs] <;> omega | simp [isCell]) [hRs, takeMarks, resA, resAll, resOne, Value.cells, hc2]
          refine .det ?_
          simp (disch := as_aux_lemma => first | omega | simp only [hDs] <;> omega | simp [isCell]) [hRs, takeMarks, resA, resAll, resOne, Value.cells]
          exact hno (by simp [toldV, hc]; omega) _
        · simp (disch := as_aux_lemma => first | omega | simp only [hDs] <;> omega | simp [isCell]) [hRs, takeMarks, resA, resAll, resOne, Value.cells, hc2, h0', hx2]
          refine e190 _ ?_
          simp (disch := as_aux_lemma => first | omega | simp only [hDs] <;> omega | simp [isCell]) [hRs, takeMarks, resA, resAll, resOne, Value.cells]
          refine .det ?_
          cases hb : bs.all id with
          | false =>
            simp (disch := as_aux_lemma => first | omega | simp only [hDs] <;> omega | simp [isCell]) [hRs, takeMarks, resA, resAll, resOne, Value.cells]
            exact hno (by simp [toldV, hb]) _
          | true =>
            simp (disch := as_aux_lemma => first | omega | simp only [hDs] <;> omega | simp [isCell]) [hRs, takeMarks, resA, resAll, resOne, Value.cells]
            exact fin _ (by simp [h0']) (by unfold toldV; rw [hall2, hb, hc]; simp; omega)
end
end Go.Ab.Dike
namespace Go.Ab.Dike
open Go Go.Ab
def boolsOf : List Value → Option (List Bool)
  | [] => some []
  | .bool b :: l => (boolsOf l).map fun r => b :: r
  | _ => none
theorem boolsOf_eq : ∀ {l : List Value} {r : List Bool}, boolsOf l = some r → l = bools r
  | [], r, h => by cases h; rfl
  | v :: l, r, h => by
    unfold boolsOf at h
    split at h
    · rename_i h1; cases h1
    · rename_i b l' h1
      cases h1
      simp only [Option.map_eq_some_iff] at h
      obtain ⟨q, hq, rfl⟩ := h
      rw [boolsOf_eq hq]; rfl
    · cases h
def seenOf : List (Value × Value) → Option (List Seen)
  | [] => some []
  | (.string w, .agg ⟨[.string c, .bool b]⟩) :: l => (seenOf l).map fun r => (w, c, b) :: r
  | _ => none
theorem seenOf_eq : ∀ {l : List (Value × Value)} {r : List Seen}, seenOf l = some r → l = r.map encE
  | [], r, h => by cases h; rfl
  | v :: l, r, h => by
    unfold seenOf at h
    split at h
    · rename_i h1; cases h1
    · rename_i w c b l' h1
      cases h1
      simp only [Option.map_eq_some_iff] at h
      obtain ⟨q, hq, rfl⟩ := h
      rw [seenOf_eq hq]; rfl
    · cases h
def readB (A : Hp) : Value → Option (List Bool)
  | .slice none 0 0 => some []
  | .slice (some ⟨b, 0, some 1⟩) n _ => match A.get b with
    | some (.cells cs _) => match Nat.beq cs.length n with
      | true => boolsOf cs
      | false => none
    | _ => none
  | _ => none
theorem readB_rd {A : Hp} {dv : Value} {bs : List Bool} (h : readB A dv = some bs) : RdS A 1 bs.length (bools bs) dv ∧ (dv = .slice none 0 0 ∨ ∃ b n c ro, dv = .slice (some ⟨b, 0, some 1⟩) n c ∧ A.get b = some (.cells (bools bs) ro)) := by
  unfold readB at h
  split at h
  · cases h; exact ⟨⟨rfl, .inl ⟨rfl, rfl⟩⟩, .inl rfl⟩
  · rename_i b n c
    split at h
    · rename_i cs ro hb
      split at h
      · rename_i hn
        have hn := Nat.eq_of_beq_eq_true hn
        have := boolsOf_eq h
        subst this
        have hn' : n = bs.length := by simpa using hn.symm
        subst hn'
        exact ⟨⟨by simp, .inr ⟨b, c, ro, rfl, hb⟩⟩, .inr ⟨b, _, c, ro, rfl, hb⟩⟩
      · cases h
    · cases h
  · cases h
def no1 : Value := .tuple ⟨[.bool false, .slice none 0 0, .int .i64 1]⟩
def no0 : Value := .tuple ⟨[.bool false, .slice none 0 0, .int .i64 0]⟩
def yes0 (A : Hp) (n : Nat) : Value := .tuple ⟨[.bool true, .slice (some ⟨A.n, 0, some 1⟩) n n, .int .i64 0]⟩
def S149 : Spec := fun _ args A =>
  match args with
  | [.pointer none] => some (no1, A)
  | [.pointer (some ⟨x, 0, none⟩)] => match A.get x with
    | some (.cells (.bool false :: cs) _) => match cs.all (inV1 fun y => Nat.blt y A.n) with
      | true => some (no1, A)
      | false => none
    | some (.cells [.bool true, lv, dv, lg, .bool ship, .map (some m), tm] _) => match A.get m with
      | some (.map l none) => match seenOf l, readB A dv with
        | some es, some bs => match Nat.ble es.length 12 && Nat.blt bs.length 1000000 && inV1 (fun y => Nat.blt y A.n) lv && simple lg && simple tm with
          | true => match toldV es ship bs with
            | true => some (yes0 A es.length, A.push (.cells (strs (srt (es.map fun e => e.1))) false))
            | false => some (no0, A)
          | false => none
        | _, _ => none
      | _ => none
    | _ => none
  | _ => none
theorem noneOk {E : Env} : SpecsOk E fun _ => none := fun _ _ h => by cases h
theorem srt_length (l : List ByteArray) : (srt l).length = l.length := by
  have : ∀ (q rp : List ByteArray), (insAll rp q).length = rp.length + q.length := by
    intro q
    induction q with
    | nil => intro rp; rfl
    | cons x q ih => intro rp; rw [insAll, ih, insR_length]; simp; omega
  simp [srt, this]
theorem simple_inV1 {p : Nat → Bool} {v : Value} (h : simple v = true) : inV1 p v = true := by
  unfold inV1
  split
  · simp [simple] at h
  · simp [simple] at h
  · simp [simple] at h
  · exact h
theorem S149_ok {E : Env} (hE : E.AP = AP) (htf : TextsOk E tf) {g : Nat} {args : List Value} {A : Hp} {v : Value} {A' : Hp} (h : S149 g args A = some (v, A')) : FnSound E g 149 args A v A' ∧ HK g A A' := by
  have hK : KOk fun _ => none := ⟨fun _ _ => rfl⟩
  have noout : ∀ {v1 : Value}, okV A.n v1 = true → (∀ ρ, ren ρ v1 = v1) → (∃ (p live : Nat → Bool), (∀ x, p x = true → x < A.n) ∧ args.all (inV p) = true ∧ (∀ x, live x = true → ∃ b, A.get x = some b ∧ p x = true ∧ inB p b = true) ∧
      ∀ V : Value → Hp → Prop, (∀ A', V v1 A') → WN AP (fun _ => none) tf (.fn A.n 149 args (cutHp A live) V)) → FnSound E g 149 args A v1 A ∧ HK g A A := by
    rintro v1 hv1 hren ⟨p, live, h1, h2, h3, h4⟩
    exact good_of_WN (out := none) noneOk htf p live h1 h2 h3 (by rw [hE]; exact h4 _ fun A' => ⟨0, (hren _).symm, hv1⟩) g
  have hb : ∀ y, (Nat.blt y A.n) = true → y < A.n := fun y hy => by simpa using hy
  unfold S149 at h
  split at h
  · cases h
    exact noout (by simp [okV, no1, okV1, simple]) (fun ρ => by simp [ren, no1, ren1]) ⟨fun _ => false, fun _ => false, (fun x hx => by cases hx), rfl, (fun x hx => by cases hx), fun V hV => n149_nil hK rfl (hV _)⟩
  · rename_i x
    split at h
    · rename_i cs ro hx
      have hxn := Hp.lt_of_get hx
      split at h
      · rename_i hcs
        cases h
        refine noout (by simp [okV, no1, okV1, simple]) (fun ρ => by simp [ren, no1, ren1]) ⟨fun y => Nat.blt y A.n, fun y => Nat.beq y x, hb, ?_, fun y hy => ?_, fun V hV => ?_⟩
        · simp [inV, inV1, hxn]
        · have : y = x := Nat.eq_of_beq_eq_true hy
          subst this
          exact ⟨_, hx, by simpa using hxn, by simp only [inB, List.all_cons, hcs, Bool.and_true]; rfl⟩
        · exact n149_un hK rfl (cs := cs) (ro := ro) (by rw [cutHp_live (by simp)]; exact hx) (hV _)
      · cases h
    · rename_i lv dv lg ship m tm ro hx
      have hxn := Hp.lt_of_get hx
      split at h
      · rename_i l hm
        have hmn := Hp.lt_of_get hm
        split at h
        · rename_i es bs hes hbs
          split at h
          · rename_i hc
            simp only [Bool.and_eq_true] at hc
            obtain ⟨⟨⟨⟨c1, c2⟩, c3⟩, c4⟩, c5⟩ := hc
            have c1 := Nat.le_of_ble_eq_true c1
            have c2 : bs.length < 1000000 := by simpa using c2
            have hl := seenOf_eq hes
            subst hl
            obtain ⟨hd, hdv⟩ := readB_rd hbs
            obtain ⟨live, hl1, hl2, hl3, hl4⟩ : ∃ live : Nat → Bool, live x = true ∧ live m = true ∧ RdS (cutHp A live) 1 bs.length (bools bs) dv ∧ ∀ y, live y = true → ∃ b, A.get y = some b ∧ Nat.blt y A.n = true ∧ inB (fun y => Nat.blt y A.n) b = true := by
              have hbx : inV1 (fun y => Nat.blt y A.n) dv = true → ∃ b, A.get x = some b ∧ Nat.blt x A.n = true ∧ inB (fun y => Nat.blt y A.n) b = true := fun hdv => ⟨_, hx, by simpa using hxn, by
                simp only [inB, List.all_cons, List.all_nil, Bool.and_true, c3, hdv, simple_inV1 c4, simple_inV1 c5, Bool.true_and]
                simp [inV1, simple, hmn]⟩
              have hbm : ∃ b, A.get m = some b ∧ Nat.blt m A.n = true ∧ inB (fun y => Nat.blt y A.n) b = true := ⟨_, hm, by simpa using hmn, by
                simp only [inB, Bool.and_eq_true]
                refine ⟨List.all_eq_true.2 fun q hq => ?_, rfl⟩
                obtain ⟨e, _, rfl⟩ := List.mem_map.1 hq
                rfl⟩
              rcases hdv with rfl | ⟨b, n, c, ro', rfl, hbb⟩
              · refine ⟨fun y => Nat.beq y x || Nat.beq y m, by simp, by simp, ?_, fun y hy => ?_⟩
                · obtain ⟨h0, h1⟩ := hd
                  refine ⟨h0, .inl ⟨rfl, ?_⟩⟩
                  rcases h1 with ⟨_, h1⟩ | ⟨b, c, ro, h1, _⟩
                  · exact h1
                  · cases h1
                · simp only [Bool.or_eq_true] at hy
                  rcases hy with hy | hy
                  · rw [Nat.eq_of_beq_eq_true hy]; exact hbx rfl
                  · rw [Nat.eq_of_beq_eq_true hy]; exact hbm
              · have hbn := Hp.lt_of_get hbb
                refine ⟨fun y => Nat.beq y x || Nat.beq y m || Nat.beq y b, by simp, by simp, ?_, fun y hy => ?_⟩
                · obtain ⟨h0, h1⟩ := hd
                  refine ⟨h0, .inr ?_⟩
                  rcases h1 with ⟨h1, _⟩ | ⟨b', c', ro', h1, _⟩
                  · cases h1
                  · cases h1
                    exact ⟨b, c, _, rfl, by rw [cutHp_live (by simp)]; exact hbb⟩
                · simp only [Bool.or_eq_true] at hy
                  rcases hy with (hy | hy) | hy
                  · rw [Nat.eq_of_beq_eq_true hy]; exact hbx (by simp [inV1, hbn])
                  · rw [Nat.eq_of_beq_eq_true hy]; exact hbm
                  · rw [Nat.eq_of_beq_eq_true hy]
                    refine ⟨_, hbb, by simpa using hbn, List.all_eq_true.2 fun v hv => ?_⟩
                    obtain ⟨q, _, rfl⟩ := List.mem_map.1 hv
                    rfl
            have gx : (cutHp A live).get x = _ := (cutHp_live hl1).trans hx
            have gm : (cutHp A live).get m = _ := (cutHp_live hl2).trans hm
            split at h
            · rename_i hto
              cases h
              have hkl : (srt (es.map fun e => e.1)).length = es.length := by rw [srt_length]; simp
              have hpos : 0 < es.length := by
                rcases Nat.eq_zero_or_pos es.length with h0 | h0
                · have : es = [] := List.eq_nil_of_length_eq_zero h0
                  subst this
                  simp [toldV, setS] at hto
                · exact h0
              refine good_of_WN (out := some (strs (srt (es.map fun e => e.1)))) noneOk htf (fun y => Nat.blt y A.n) live hb ?_ hl4 ?_ g
              · simp [inV, inV1, hxn]
              · rw [hE]
                refine n149 hK rfl rfl gx gm hl3 c1 c2 (Nat.le_refl _) (fun h => by rw [hto] at h; cases h) fun _ A1 sv hacc => ?_
                rcases hacc with ⟨_, h1⟩ | ⟨b, n, rfl, k3, k4, k5, k6⟩
                · have h2 : (strs (srt (es.map fun e => e.1))).length = es.length := by rw [strs_length, hkl]
                  rw [h1, List.length_nil] at h2
                  omega
                · have hn : es.length = n := by simpa [hkl] using k5
                  refine ⟨b, by simp [ren, yes0, ren1, hn], ?_⟩
                  refine ⟨by simp [okV, yes0, okV1, simple], ?_, by simp [hasV, yes0, hasV1], k3, k4⟩
                  refine List.all_eq_true.2 fun v hv => ?_
                  obtain ⟨q, _, rfl⟩ := List.mem_map.1 hv
                  rfl
            · rename_i hto
              cases h
              refine noout (by simp [okV, no0, okV1, simple]) (fun ρ => by simp [ren, no0, ren1]) ⟨fun y => Nat.blt y A.n, live, hb, by simp [inV, inV1, hxn], hl4, fun V hV => ?_⟩
              exact n149 hK rfl rfl gx gm hl3 c1 c2 (Nat.le_refl _) (fun _ A1 => hV A1) fun h => by rw [hto] at h; cases h
          · cases h
        · cases h
      · cases h
    · cases h
  · cases h
end Go.Ab.Dike
set_option maxRecDepth 100000
namespace Go.Ab.Dike
open Go Go.Ab
def S121 : Spec := fun _ args A => match args with
  | [] => some (.bool true, A)
  | _ => none
def K1 (n : Nat) : Option Spec := cond (Nat.beq n 149) (some S149) none
def KL (n : Nat) : Option Spec := cond (Nat.beq n 121) (some S121) (cond (Nat.beq n 149) (some S149) none)
def mWorks : Memo := ⟨[], [], .bool true, none⟩
theorem mWorks_run : mWorks.check AP K1 300 40 121 = true := by kernel_rfl
theorem isFnE {E : Env} (hE : E.AP = AP) (f : Nat) (h : (match AP f with | some (.fn _ _ _) => true | _ => false) = true) : ∃ nt rs body, E.AP f = some (.fn nt rs body) := by
  rw [hE]
  split at h
  · rename_i nt rs body he; exact ⟨nt, rs, body, he⟩
  · cases h
theorem K1_ok {E : Env} (hE : E.AP = AP) (htf : TextsOk E tf) : SpecsOk E K1 := by
  intro h S hS
  unfold K1 at hS
  cases hb : Nat.beq h 149 with
  | true =>
    rw [hb] at hS
    cases hS
    have := Nat.eq_of_beq_eq_true hb
    subst this
    exact ⟨isFnE hE 149 (by kernel_rfl), fun g args A v A' hr => S149_ok hE htf hr⟩
  | false => rw [hb] at hS; cases hS
theorem S121_ok {E : Env} (hE : E.AP = AP) (htf : TextsOk E tf) {g : Nat} {args : List Value} {A : Hp} {v : Value} {A' : Hp} (h : S121 g args A = some (v, A')) : FnSound E g 121 args A v A' ∧ HK g A A' := by
  have hw : mWorks.Ok E 121 := Memo.ok_of_check (K1_ok hE htf) (isFnE hE 121 (by kernel_rfl)) (by kernel_rfl) (by rw [hE]; exact mWorks_run)
  unfold S121 at h
  split at h
  · cases h
    exact Memo.try_sound hw rfl
  · cases h
theorem KL_ok' {E : Env} (hE : E.AP = AP) (htf : TextsOk E tf) : SpecsOk E KL := by
  intro h S hS
  unfold KL at hS
  cases hb : Nat.beq h 121 with
  | true =>
    rw [hb] at hS
    cases hS
    have := Nat.eq_of_beq_eq_true hb
    subst this
    exact ⟨isFnE hE 121 (by kernel_rfl), fun g args A v A' hr => S121_ok hE htf hr⟩
  | false =>
    rw [hb] at hS
    cases hb2 : Nat.beq h 149 with
    | true =>
      rw [hb2] at hS
      cases hS
      have := Nat.eq_of_beq_eq_true hb2
      subst this
      exact ⟨isFnE hE 149 (by kernel_rfl), fun g args A v A' hr => S149_ok hE htf hr⟩
    | false => rw [hb2] at hS; cases hS
abbrev J (n : Int) : Value := .int .i64 n
def validB (a b lo hi : Int) : Bool := decide (a ≤ b) && (decide (lo ≤ a) && decide (b ≤ hi))
theorem set_push_eq {A : Hp} {b b' : ABlk} {x : Nat} (h : x ≤ A.n ∧ A.n ≤ x) : (A.push b).set x (some b') = A.push b' := by
  rw [show x = A.n by omega]; exact set_push_new
section
variable {g : Nat} {rd : Option Nat} {T : List Value} {D : List Nat} {A : Hp} {Q : Ex → St → Prop} {V : Value → Hp → Prop}
@[simp] theorem w121 : WF AP KL g 121 [] A V ↔ V (.bool true) A := by
  rw [WF_spec (show KL 121 = some S121 from rfl)]
  rfl
theorem w160 {a b lo hi : Int} (hV : ∀ A', A'.n = A.n + 1 → (∀ x, x < A.n → A'.get x = A.get x) → V (.bool (validB a b lo hi)) A') : WF AP KL g 160 [.agg ⟨[.int .i64 a, .int .i64 b]⟩, .int .i64 lo, .int .i64 hi] A V := by
  rw [WF_body (show KL 160 = none from rfl) (show AP 160 = some F160 from rfl)]
  have fin := hV (A.push (.cells [.int .i64 a, .int .i64 b] false)) rfl fun x hx => get_push_old hx
  by_cases h1 : a ≤ b
  · by_cases h2 : lo ≤ a
    · simp (disch := as_aux_lemma => first | omega | simp only [hDs] <;> omega | simp [isCell]) [hRs, takeMarks, resA, resAll, resOne, Value.cells, F160, h1, h2]
      simpa [validB, h1, h2] using fin
    · simp (disch := as_aux_lemma => first | omega | simp only [hDs] <;> omega | simp [isCell]) [hRs, takeMarks, resA, resAll, resOne, Value.cells, F160, h1, h2]
      simpa [validB, h1, h2] using fin
  · simp (disch := as_aux_lemma => first | omega | simp only [hDs] <;> omega | simp [isCell]) [hRs, takeMarks, resA, resAll, resOne, Value.cells, F160, h1]
    simpa [validB, h1] using fin
end
end Go.Ab.Dike
set_option maxRecDepth 100000
namespace Go.Ab.Dikez
open Go Go.Ab Go.Proofs Go.Ab.Dike
def textF : Option Func → Bool
  | some fn => match fn.body with
    | some c => allText c
    | none => true
  | none => true
theorem texts_run : ((List.range 223).all fun f => !tf (lab f) || textF (Tryz.prog.funcs[f]?)) = true := by kernel_rfl
theorem texts_ok : TextsOk E tf := by
  intro f f' fn c ht hl hf hb
  rcases Nat.lt_or_ge f' 223 with h | h
  · have := List.all_eq_true.1 texts_run f' (List.mem_range.2 h)
    have hl' : lab f' = f := hl
    have hf' : Tryz.prog.funcs[f']? = some fn := hf
    rw [hl', ht, hf'] at this
    simpa [textF, hb] using this
  · have e9 : tf 99999 = false := by kernel_rfl
    have e0 : tf 0 = false := by kernel_rfl
    have e : tf (lab f') = false := by
      have el : labs.getD f' 0 = 0 := by simp [List.getElem?_eq_none (show labs.length ≤ f' by rw [labs_len]; exact h)]
      unfold lab
      cases Nat.beq f' 1000079 with
      | true => exact e9
      | false =>
        show tf (labs.getD f' 0) = false
        rw [el]; exact e0
    have hl' : lab f' = f := hl
    rw [hl', ht] at e; cases e
theorem KL_ok : SpecsOk E KL := KL_ok' rfl texts_ok
end Go.Ab.Dikez
set_option maxRecDepth 100000
namespace Go.Ab.Dikez
open Go Go.Ab Go.Proofs Go.Ab.Dike
theorem isFn' (f nt : Nat) (rs : List ARes) (c : ACode) (h : AP f = some (.fn nt rs c)) : ∃ nt rs body, E.AP f = some (.fn nt rs body) := ⟨nt, rs, c, h⟩
theorem own : ownKnob Tryz.prog.godebug = none := by kernel_rfl
theorem laidOut : laidOutB Tryz.prog = true := by kernel_rfl
end Go.Ab.Dikez
namespace Go.Ab.Dike
open Go Go.Ab
def tI : Ty := .int .i64
end Go.Ab.Dike
namespace Go.Ab.Dike
open Go Go.Ab
section
variable {g : Nat} {rd : Option Nat} {D : List Nat} {Q : Ex → St → Prop}
def Says (g : Nat) (A0 : Hp) (f : Value) (n : Nat) (val : Nat → Value) (p : Nat → Bool) : Prop :=
  ∀ i, i < n → ∀ (A : Hp) (V : Value → Hp → Prop), Ext' A0 A → (∀ A', Ext' A A' → V (.bool (p i)) A') → WV AP KL g f [val i] A V
theorem Says.mono {g : Nat} {A0 A1 : Hp} {f : Value} {n : Nat} {val : Nat → Value} {p : Nat → Bool} (h : Says g A0 f n val p) (he : Ext' A0 A1) : Says g A1 f n val p := fun i hi A V hA hV => h i hi A V (he.trans hA) hV
theorem _root_.Go.Ab.Ext'.rdS {A A' : Hp} {k n : Nat} {cs : List Value} {sv : Value} (h : Ext' A A') (hr : RdS A k n cs sv) : RdS A' k n cs sv := hr.mono h.2
def RdP (A : Hp) (k n : Nat) (cs : List Value) (sv : Value) : Prop := n * k ≤ cs.length ∧ ((sv = .slice none 0 0 ∧ n = 0) ∨ ∃ b c ro, sv = .slice (some ⟨b, 0, some k⟩) n c ∧ A.get b = some (.cells cs ro))
theorem RdP.mono {A A' : Hp} {k n : Nat} {cs : List Value} {sv : Value} (h : RdP A k n cs sv) (hA : ∀ x, x < A.n → A'.get x = A.get x) : RdP A' k n cs sv := by
  obtain ⟨h0, h | ⟨b, c, ro, h1, h2⟩⟩ := h
  · exact ⟨h0, .inl h⟩
  · exact ⟨h0, .inr ⟨b, c, ro, h1, by rw [hA b (Hp.lt_of_get h2)]; exact h2⟩⟩
theorem RdP.len {A : Hp} {k n : Nat} {cs : List Value} {sv : Value} (h : RdP A k n cs sv) : lenV sv = some (.int .i64 n) := by
  obtain ⟨_, ⟨rfl, rfl⟩ | ⟨b, c, ro, rfl, _⟩⟩ := h <;> rfl
theorem RdP.at {A : Hp} {k n i : Nat} {cs : List Value} {sv : Value} (h : RdP A k n cs sv) (hi : i < n) : ∃ b c ro, sv = .slice (some ⟨b, 0, some k⟩) n c ∧ A.get b = some (.cells cs ro) := by
  obtain ⟨_, ⟨_, h0⟩ | h⟩ := h
  · omega
  · exact h
theorem _root_.Go.Ab.RdS.rdP {A : Hp} {k n : Nat} {cs : List Value} {sv : Value} (h : RdS A k n cs sv) : RdP A k n cs sv := ⟨Nat.le_of_eq h.1.symm, h.2⟩
theorem _root_.Go.Ab.Ext'.rdP {A A' : Hp} {k n : Nat} {cs : List Value} {sv : Value} (h : Ext' A A') (hr : RdP A k n cs sv) : RdP A' k n cs sv := hr.mono h.2
theorem resl_some {b k n c i : Nat} (h : i ≤ n) : resliceA k (.slice (some ⟨b, 0, some k⟩) n c) (some 0) (fun _ => some (i : Int)) = some (.slice (some ⟨b, 0, some k⟩) i (Nat.max n c)) := by
  simp only [resliceA]
  rw [if_pos ⟨trivial, Int.le_refl 0, by omega, by simp only [Nat.max_def]; split <;> omega⟩]
  simp
theorem loop82 {A0 : Hp} {n : Nat} {sl f : Value} {row : List Value} {val : Nat → Value} {p : Nat → Bool} (hsl : RdS A0 2 n row sl) (hval : ∀ i, i < n → partA row (i * 2) (some 2) = some (val i)) (hf : Says g A0 f n val p) (hn : n < 1000000)
    (hin : ∀ i T' A', i < n → p i = true → Ext' A0 A' → tget T' 4 = .int .i64 (i : Nat) → Q .ret ⟨T', D, A'⟩) (hout : ∀ T' A', (∀ i, i < n → p i = false) → Ext' A0 A' → Q (.exit 0) ⟨T', D, A'⟩) :
    ∀ (k i : Nat) {T : List Value} {A : Hp}, i + k = n → (∀ j, j < i → p j = false) → Ext' A0 A → tget T 0 = sl → tget T 1 = f → tget T 7 = .int .i64 n → tget T 8 = .int .i64 i → W AP KL g rd (.loop body82) ⟨T, D, A⟩ Q := by
  intro k
  induction k with
  | zero =>
    intro i T A hik hno he h0 h1 h7 h8
    have : i = n := by omega
    subst this
    rw [W_loop]
    simp (disch := as_aux_lemma => first | omega | simp only [hDs] <;> omega | simp [isCell]) [hRs, takeMarks, resA, resAll, resOne, Value.cells, body82, h7, h8]
    exact hout _ A hno he
  | succ k ih =>
    intro i T A hik hno he h0 h1 h7 h8
    obtain ⟨x, c, ro, rfl, hx⟩ := (he.rdS hsl).at (i := i) (by omega)
    have hv := hval i (by omega)
    skip
    rw [W_loop]
    simp (disch := as_aux_lemma => first | omega | simp only [hDs] <;> omega | simp [isCell]) [hRs, takeMarks, resA, resAll, resOne, Value.cells, body82, h7, h8, h0, h1, show ((i : Int) < n) by omega, idxSA_ok, hx, hv]
    refine hf i (by omega) A _ he fun A1 he1 => ?_
    cases hp : p i with
    | true =>
      simp (disch := as_aux_lemma => first | omega | simp only [hDs] <;> omega | simp [isCell]) [hRs, takeMarks, resA, resAll, resOne, Value.cells]
      exact hin i _ A1 (by omega) hp (he.trans he1) (by simp)
    | false =>
      simp (disch := as_aux_lemma => first | omega | simp only [hDs] <;> omega | simp [isCell]) [hRs, takeMarks, resA, resAll, resOne, Value.cells, h8]
      have hno' : ∀ j, j < i + 1 → p j = false := fun j hj => by
        rcases Nat.lt_or_ge j i with h | h
        · exact hno j h
        · have : j = i := by omega
          subst this; exact hp
      exact ih (i + 1) (by omega) hno' (he.trans he1) (by simp [h0]) (by simp [h1]) (by simp [h7]) (by simp [wrId (n := (i : Int) + 1) (by omega) (by omega)])
theorem w82 {A : Hp} {V : Value → Hp → Prop} {n : Nat} {sl f : Value} {row : List Value} {val : Nat → Value} {p : Nat → Bool} (hsl : RdS A 2 n row sl) (hval : ∀ i, i < n → partA row (i * 2) (some 2) = some (val i)) (hf : Says g A f n val p) (hn : n < 1000000)
    (hV : ∀ A' (k : Int), Ext' A A' → (0 ≤ k ↔ (List.range n).any p = true) → V (.int .i64 k) A') : WF AP KL g 82 [sl, f] A V := by
  rw [WF_body (show KL 82 = none from rfl) (show AP 82 = some F82 from rfl)]
  simp (disch := as_aux_lemma => first | omega | simp only [hDs] <;> omega | simp [isCell]) [hRs, takeMarks, resA, resAll, resOne, Value.cells, F82, hsl.len]
  refine loop82 hsl hval hf hn ?_ ?_ n 0 (by omega) (fun j h => absurd h (Nat.not_lt_zero _)) (Ext'.refl _) (by simp) (by simp) (by simp) (by simp)
  · intro i T' A' hi hp he h4
    simp (disch := as_aux_lemma => first | omega | simp only [hDs] <;> omega | simp [isCell]) [hRs, takeMarks, resA, resAll, resOne, Value.cells, h4]
    exact hV A' _ he ⟨fun _ => List.any_eq_true.2 ⟨i, by simpa using hi, hp⟩, fun _ => by omega⟩
  · intro T' A' hno he
    simp (disch := as_aux_lemma => first | omega | simp only [hDs] <;> omega | simp [isCell]) [hRs, takeMarks, resA, resAll, resOne, Value.cells]
    refine hV A' _ he ⟨fun h => by omega, fun h => ?_⟩
    obtain ⟨i, hi, hp⟩ := List.any_eq_true.1 h
    rw [hno i (by simpa using hi)] at hp
    cases hp
theorem w56 {A : Hp} {V : Value → Hp → Prop} {n : Nat} {sl f : Value} {row : List Value} {val : Nat → Value} {p : Nat → Bool} (hsl : RdS A 2 n row sl) (hval : ∀ i, i < n → partA row (i * 2) (some 2) = some (val i)) (hf : Says g A f n val p) (hn : n < 1000000)
    (hV : ∀ A', Ext' A A' → V (.bool ((List.range n).any p)) A') : WF AP KL g 56 [sl, f] A V := by
  rw [WF_body (show KL 56 = none from rfl) (show AP 56 = some F56 from rfl)]
  simp (disch := as_aux_lemma => first | omega | simp only [hDs] <;> omega | simp [isCell]) [hRs, takeMarks, resA, resAll, resOne, Value.cells, F56]
  refine w82 hsl hval hf hn fun A' k he hk => ?_
  simp (disch := as_aux_lemma => first | omega | simp only [hDs] <;> omega | simp [isCell]) [hRs, takeMarks, resA, resAll, resOne, Value.cells]
  have : decide (0 ≤ k) = (List.range n).any p := by
    rw [Bool.eq_iff_iff, decide_eq_true_eq]; exact hk
  rw [this]
  exact hV A' he
theorem loop202 {A0 : Hp} {n : Nat} {sl f : Value} {row : List Value} {val : Nat → Value} {p : Nat → Bool} (hsl : RdP A0 1 n row sl) (hval : ∀ i, i < n → partA row (i) (none) = some (val i)) (hf : Says g A0 f n val p) (hn : n < 1000000)
    (hin : ∀ i T' A', i < n → p i = true → Ext' A0 A' → tget T' 4 = .int .i64 (i : Nat) → Q .ret ⟨T', D, A'⟩) (hout : ∀ T' A', (∀ i, i < n → p i = false) → Ext' A0 A' → Q (.exit 0) ⟨T', D, A'⟩) :
    ∀ (k i : Nat) {T : List Value} {A : Hp}, i + k = n → (∀ j, j < i → p j = false) → Ext' A0 A → tget T 0 = sl → tget T 1 = f → tget T 7 = .int .i64 n → tget T 8 = .int .i64 i → W AP KL g rd (.loop body202) ⟨T, D, A⟩ Q := by
  intro k
  induction k with
  | zero =>
    intro i T A hik hno he h0 h1 h7 h8
    have : i = n := by omega
    subst this
    rw [W_loop]
    simp (disch := as_aux_lemma => first | omega | simp only [hDs] <;> omega | simp [isCell]) [hRs, takeMarks, resA, resAll, resOne, Value.cells, body202, h7, h8]
    exact hout _ A hno he
  | succ k ih =>
    intro i T A hik hno he h0 h1 h7 h8
    obtain ⟨x, c, ro, rfl, hx⟩ := (he.rdP hsl).at (i := i) (by omega)
    have hv := hval i (by omega)
    rw [partA_none] at hv
    rw [W_loop]
    simp (disch := as_aux_lemma => first | omega | simp only [hDs] <;> omega | simp [isCell]) [hRs, takeMarks, resA, resAll, resOne, Value.cells, body202, h7, h8, h0, h1, show ((i : Int) < n) by omega, idxSA_ok, hx, hv]
    refine hf i (by omega) A _ he fun A1 he1 => ?_
    cases hp : p i with
    | true =>
      simp (disch := as_aux_lemma => first | omega | simp only [hDs] <;> omega | simp [isCell]) [hRs, takeMarks, resA, resAll, resOne, Value.cells]
      exact hin i _ A1 (by omega) hp (he.trans he1) (by simp)
    | false =>
      simp (disch := as_aux_lemma => first | omega | simp only [hDs] <;> omega | simp [isCell]) [hRs, takeMarks, resA, resAll, resOne, Value.cells, h8]
      have hno' : ∀ j, j < i + 1 → p j = false := fun j hj => by
        rcases Nat.lt_or_ge j i with h | h
        · exact hno j h
        · have : j = i := by omega
          subst this; exact hp
      exact ih (i + 1) (by omega) hno' (he.trans he1) (by simp [h0]) (by simp [h1]) (by simp [h7]) (by simp [wrId (n := (i : Int) + 1) (by omega) (by omega)])
theorem w202 {A : Hp} {V : Value → Hp → Prop} {n : Nat} {sl f : Value} {row : List Value} {val : Nat → Value} {p : Nat → Bool} (hsl : RdP A 1 n row sl) (hval : ∀ i, i < n → partA row (i) (none) = some (val i)) (hf : Says g A f n val p) (hn : n < 1000000)
    (hV : ∀ A' (k : Int), Ext' A A' → (0 ≤ k ↔ (List.range n).any p = true) → V (.int .i64 k) A') : WF AP KL g 202 [sl, f] A V := by
  rw [WF_body (show KL 202 = none from rfl) (show AP 202 = some F202 from rfl)]
  simp (disch := as_aux_lemma => first | omega | simp only [hDs] <;> omega | simp [isCell]) [hRs, takeMarks, resA, resAll, resOne, Value.cells, F202, hsl.len]
  refine loop202 hsl hval hf hn ?_ ?_ n 0 (by omega) (fun j h => absurd h (Nat.not_lt_zero _)) (Ext'.refl _) (by simp) (by simp) (by simp) (by simp)
  · intro i T' A' hi hp he h4
    simp (disch := as_aux_lemma => first | omega | simp only [hDs] <;> omega | simp [isCell]) [hRs, takeMarks, resA, resAll, resOne, Value.cells, h4]
    exact hV A' _ he ⟨fun _ => List.any_eq_true.2 ⟨i, by simpa using hi, hp⟩, fun _ => by omega⟩
  · intro T' A' hno he
    simp (disch := as_aux_lemma => first | omega | simp only [hDs] <;> omega | simp [isCell]) [hRs, takeMarks, resA, resAll, resOne, Value.cells]
    refine hV A' _ he ⟨fun h => by omega, fun h => ?_⟩
    obtain ⟨i, hi, hp⟩ := List.any_eq_true.1 h
    rw [hno i (by simpa using hi)] at hp
    cases hp
theorem w180 {A : Hp} {V : Value → Hp → Prop} {n : Nat} {sl f : Value} {row : List Value} {val : Nat → Value} {p : Nat → Bool} (hsl : RdP A 1 n row sl) (hval : ∀ i, i < n → partA row (i) (none) = some (val i)) (hf : Says g A f n val p) (hn : n < 1000000)
    (hV : ∀ A', Ext' A A' → V (.bool ((List.range n).any p)) A') : WF AP KL g 180 [sl, f] A V := by
  rw [WF_body (show KL 180 = none from rfl) (show AP 180 = some F180 from rfl)]
  simp (disch := as_aux_lemma => first | omega | simp only [hDs] <;> omega | simp [isCell]) [hRs, takeMarks, resA, resAll, resOne, Value.cells, F180]
  refine w202 hsl hval hf hn fun A' k he hk => ?_
  simp (disch := as_aux_lemma => first | omega | simp only [hDs] <;> omega | simp [isCell]) [hRs, takeMarks, resA, resAll, resOne, Value.cells]
  have : decide (0 ≤ k) = (List.range n).any p := by
    rw [Bool.eq_iff_iff, decide_eq_true_eq]; exact hk
  rw [this]
  exact hV A' he
end
end Go.Ab.Dike
namespace Go.Ab.Dike
open Go Go.Ab
def grd (zs : List Int) (i : Nat) : Bool := validB (gi zs (i * 2)) (gi zs (i * 2 + 1)) (-1200000) 1200000
def gridV (w h s : Int) (sl : Value) : Value := .agg ⟨[.int .i64 w, .int .i64 h, .int .i64 s, sl]⟩
def gridE (w h s : Int) (m : Nat) (zs : List Int) : Int :=
  if (decide (1 ≤ w) && decide (w ≤ 24)) = false ∨ (decide (1 ≤ h) && decide (h ≤ 24)) = false ∨ (decide (1 ≤ s) && decide (s ≤ 10000)) = false then 3 else if ¬ (m : Int) = wr .i64 (w * h) then 11 else if (List.range m).any (fun i => !grd zs i) = true then 3 else 0
theorem gridE_a {w h s : Int} {m : Nat} {zs : List Int} (h1 : (decide (1 ≤ w) && decide (w ≤ 24)) = false ∨ (decide (1 ≤ h) && decide (h ≤ 24)) = false ∨ (decide (1 ≤ s) && decide (s ≤ 10000)) = false) : gridE w h s m zs = 3 := if_pos h1
theorem gridE_b {w h s : Int} {m : Nat} {zs : List Int} (h1 : ¬ ((decide (1 ≤ w) && decide (w ≤ 24)) = false ∨ (decide (1 ≤ h) && decide (h ≤ 24)) = false ∨ (decide (1 ≤ s) && decide (s ≤ 10000)) = false)) (h2 : ¬ (m : Int) = wr .i64 (w * h)) : gridE w h s m zs = 11 := by rw [gridE, if_neg h1, if_pos h2]
theorem gridE_c {w h s : Int} {m : Nat} {zs : List Int} (h1 : ¬ ((decide (1 ≤ w) && decide (w ≤ 24)) = false ∨ (decide (1 ≤ h) && decide (h ≤ 24)) = false ∨ (decide (1 ≤ s) && decide (s ≤ 10000)) = false)) (h2 : (m : Int) = wr .i64 (w * h)) (h3 : (List.range m).any (fun i => !grd zs i) = true) : gridE w h s m zs = 3 := by rw [gridE, if_neg h1, if_neg (fun h => h h2), if_pos h3]
theorem gridE_d {w h s : Int} {m : Nat} {zs : List Int} (h1 : ¬ ((decide (1 ≤ w) && decide (w ≤ 24)) = false ∨ (decide (1 ≤ h) && decide (h ≤ 24)) = false ∨ (decide (1 ≤ s) && decide (s ≤ 10000)) = false)) (h2 : (m : Int) = wr .i64 (w * h)) (h3 : (List.range m).any (fun i => !grd zs i) = false) : gridE w h s m zs = 0 := by rw [gridE, if_neg h1, if_neg (fun h => h h2), h3]; rfl
section
variable {g : Nat} {rd : Option Nat} {T : List Value} {D : List Nat} {A : Hp} {Q : Ex → St → Prop} {V : Value → Hp → Prop}
theorem w55 {x lo hi : Int} (hV : V (.bool (decide (lo ≤ x) && decide (x ≤ hi))) A) : WF AP KL g 55 [.int .i64 x, .int .i64 lo, .int .i64 hi] A V := by
  rw [WF_body (show KL 55 = none from rfl) (show AP 55 = some F55 from rfl)]
  by_cases h : lo ≤ x
  · simp (disch := as_aux_lemma => first | omega | simp only [hDs] <;> omega | simp [isCell]) [hRs, takeMarks, resA, resAll, resOne, Value.cells, F55, h]
    simpa [h] using hV
  · simp (disch := as_aux_lemma => first | omega | simp only [hDs] <;> omega | simp [isCell]) [hRs, takeMarks, resA, resAll, resOne, Value.cells, F55, h]
    simpa [h] using hV
theorem w58 {a b : Int} (hV : ∀ A', Ext' A A' → V (.bool (validB a b (-1200000) 1200000)) A') : WF AP KL g 58 [.agg ⟨[.int .i64 a, .int .i64 b]⟩, .int .i64 1200000] A V := by
  rw [WF_body (show KL 58 = none from rfl) (show AP 58 = some F58 from rfl)]
  have e1 : wr .i64 (-1200000) = -1200000 := by decide
  have hV' := hV _ (Ext'.push A (.cells [.int .i64 a, .int .i64 b] false))
  by_cases h : a ≤ b
  · by_cases h2 : -1200000 ≤ a
    · simp (disch := as_aux_lemma => first | omega | simp only [hDs] <;> omega | simp [isCell]) [hRs, takeMarks, resA, resAll, resOne, Value.cells, F58, h, h2, e1]
      simpa [validB, h, h2] using hV'
    · simp (disch := as_aux_lemma => first | omega | simp only [hDs] <;> omega | simp [isCell]) [hRs, takeMarks, resA, resAll, resOne, Value.cells, F58, h, h2, e1]
      simpa [validB, h, h2] using hV'
  · simp (disch := as_aux_lemma => first | omega | simp only [hDs] <;> omega | simp [isCell]) [hRs, takeMarks, resA, resAll, resOne, Value.cells, F58, h]
    simpa [validB, h] using hV'
theorem says57 {A0 : Hp} {n : Nat} {zs : List Int} : Says g A0 (.func (.func 57) ⟨[]⟩ ⟨[]⟩) n (fun i => .agg ⟨[.int .i64 (gi zs (i * 2)), .int .i64 (gi zs (i * 2 + 1))]⟩) (fun i => !grd zs i) := by
  intro i hi A V he hV
  simp (disch := as_aux_lemma => first | omega | simp only [hDs] <;> omega | simp [isCell]) [hRs, takeMarks, resA, resAll, resOne, Value.cells]
  rw [WF_body (show KL 57 = none from rfl) (show AP 57 = some F57 from rfl)]
  simp (disch := as_aux_lemma => first | omega | simp only [hDs] <;> omega | simp [isCell]) [hRs, takeMarks, resA, resAll, resOne, Value.cells, F57]
  refine w58 fun A' he' => ?_
  simp (disch := as_aux_lemma => first | omega | simp only [hDs] <;> omega | simp [isCell]) [hRs, takeMarks, resA, resAll, resOne, Value.cells]
  exact hV A' ((Ext'.push A _).trans he')
theorem w37 {w h s : Int} {m : Nat} {zs : List Int} {sl : Value} (hsl : RdS A 2 m (ints zs) sl) (hm : m < 1000000) (hV : ∀ A', Ext' A A' → V (.int .i64 (gridE w h s m zs)) A') : WF AP KL g 37 [gridV w h s sl] A V := by
  rw [WF_body (show KL 37 = none from rfl) (show AP 37 = some F37 from rfl)]
  have hX : (A.push (.cells [.int .i64 w, .int .i64 h, .int .i64 s, sl] false)).get A.n = some (.cells [.int .i64 w, .int .i64 h, .int .i64 s, sl] false) := get_push_new
  have eX := Ext'.push A (.cells [.int .i64 w, .int .i64 h, .int .i64 s, sl] false)
  have hl := hsl.1
  rw [ints_length] at hl
  simp (disch := as_aux_lemma => first | omega | simp only [hDs] <;> omega | simp [isCell]) [hRs, takeMarks, resA, resAll, resOne, Value.cells, F37, gridV]
  refine w55 ?_
  cases c1 : (decide (1 ≤ w) && decide (w ≤ 24)) with
  | false =>
    simp (disch := as_aux_lemma => first | omega | simp only [hDs] <;> omega | simp [isCell]) [hRs, takeMarks, resA, resAll, resOne, Value.cells]
    rw [← gridE_a (.inl c1)]; exact hV _ eX
  | true =>
    simp (disch := as_aux_lemma => first | omega | simp only [hDs] <;> omega | simp [isCell]) [hRs, takeMarks, resA, resAll, resOne, Value.cells]
    refine w55 ?_
    cases c2 : (decide (1 ≤ h) && decide (h ≤ 24)) with
    | false =>
      simp (disch := as_aux_lemma => first | omega | simp only [hDs] <;> omega | simp [isCell]) [hRs, takeMarks, resA, resAll, resOne, Value.cells]
      rw [← gridE_a (.inr (.inl c2))]; exact hV _ eX
    | true =>
      simp (disch := as_aux_lemma => first | omega | simp only [hDs] <;> omega | simp [isCell]) [hRs, takeMarks, resA, resAll, resOne, Value.cells]
      refine w55 ?_
      cases c3 : (decide (1 ≤ s) && decide (s ≤ 10000)) with
      | false =>
        simp (disch := as_aux_lemma => first | omega | simp only [hDs] <;> omega | simp [isCell]) [hRs, takeMarks, resA, resAll, resOne, Value.cells]
        rw [← gridE_a (.inr (.inr c3))]; exact hV _ eX
      | true =>
        have hc : ¬ ((decide (1 ≤ w) && decide (w ≤ 24)) = false ∨ (decide (1 ≤ h) && decide (h ≤ 24)) = false ∨ (decide (1 ≤ s) && decide (s ≤ 10000)) = false) := by simp only [c1, c2, c3]; simp
        by_cases hwh : (m : Int) = wr .i64 (w * h)
        · simp (disch := as_aux_lemma => first | omega | simp only [hDs] <;> omega | simp [isCell]) [hRs, takeMarks, resA, resAll, resOne, Value.cells, hsl.len, ← hwh]
          refine w56 (eX.rdS hsl) (fun i hi => ints_two (by omega)) says57 hm fun A' he => ?_
          cases c4 : (List.range m).any (fun i => !grd zs i) with
          | true =>
            simp (disch := as_aux_lemma => first | omega | simp only [hDs] <;> omega | simp [isCell]) [hRs, takeMarks, resA, resAll, resOne, Value.cells]
            rw [← gridE_c hc hwh c4]; exact hV _ (eX.trans he)
          | false =>
            simp (disch := as_aux_lemma => first | omega | simp only [hDs] <;> omega | simp [isCell]) [hRs, takeMarks, resA, resAll, resOne, Value.cells]
            rw [← gridE_d hc hwh c4]; exact hV _ (eX.trans he)
        · simp (disch := as_aux_lemma => first | omega | simp only [hDs] <;> omega | simp [isCell]) [hRs, takeMarks, resA, resAll, resOne, Value.cells, hsl.len, hwh]
          rw [← gridE_b hc hwh]; exact hV _ eX
end
end Go.Ab.Dike
namespace Go.Ab.Dike
open Go Go.Ab
def blkOf : Value → Option Nat
  | .slice (some ⟨x, _, _⟩) _ _ => some x
  | _ => none
theorem _root_.Go.Ab.AccS.keepB {N : Nat} {A A' : Hp} {esz : Nat} {cs : List Value} {sv : Value} (h : AccS N A esz cs sv) (hA : ∀ b, blkOf sv = some b → A'.get b = A.get b) : AccS N A' esz cs sv := by
  rcases h with h | ⟨b, n, h1, h2, h3, h4, h5⟩
  · exact .inl h
  · exact .inr ⟨b, n, h1, by rw [hA b (by rw [h1]; rfl)]; exact h2, h3, h4, h5⟩
theorem _root_.Go.Ab.AccS.blk_ge {N : Nat} {A : Hp} {esz : Nat} {cs : List Value} {sv : Value} (h : AccS N A esz cs sv) {b : Nat} (hb : blkOf sv = some b) : N ≤ b ∧ b < A.n := by
  rcases h with ⟨rfl, _⟩ | ⟨b', n, rfl, h2, h3, h4, h5⟩
  · cases hb
  · cases hb; exact ⟨h3, Hp.lt_of_get h2⟩
theorem add_keep {N g : Nat} {A : Hp} {esz bytes n : Nat} {cs new : List Value} {ro : Bool} {sv : Value} (h : AccS N A esz cs sv) (hg : g ≤ N) (hN : N ≤ A.n) (hnew : new.length = esz) (hesz : 0 < esz) (hcell : new.all isCell = true) (hl : cs.length = n * esz)
    (hroom : (n + 1) * bytes ≤ room ∧ n + 1 ≤ room) : ∃ sv' A', appendA g (A.push (.cells new ro)) esz bytes sv (.slice (some ⟨A.n, 0, some esz⟩) 1 1) = some (sv', A') ∧ AccS N A' esz (cs ++ new) sv' ∧ (∀ z, z < A.n → blkOf sv ≠ some z → A'.get z = A.get z) ∧ A.n ≤ A'.n ∧ blkOf sv' = some (A.n + 1) := by
  have hcells : cellsAt (A.push (.cells new ro)) (1 * esz) (.slice (some ⟨A.n, 0, some esz⟩) 1 1) = some new := by
    simp only [cellsAt, Nat.one_mul]
    rw [get_push_new]
    simp only
    rw [if_pos (by omega)]
    subst hnew
    simp
  rcases h with ⟨rfl, rfl⟩ | ⟨b, k, rfl, hb, hNb, hk, hk0⟩
  · have hn : n = 0 := by
      rcases Nat.eq_zero_or_pos n with h | h
      · exact h
      · have := Nat.mul_pos h hesz
        simp only [List.length_nil] at hl
        omega
    subst hn
    refine ⟨.slice (some ⟨A.n + 1, 0, some esz⟩) 1 1, (A.push (.cells new ro)).push (.cells new false), ?_, .inr ⟨A.n + 1, 1, rfl, by rw [get_push_eq (by simp)]; simp, by omega, by simp [hnew], by omega⟩, fun z hz _ => by rw [get_push_old (by simp; omega), get_push_old hz], by simp; omega, rfl⟩
    have hr : 1 * bytes ≤ room ∧ 1 ≤ room := by simpa using hroom
    unfold appendA
    simp only [hcells]
    rw [if_pos ⟨hcell, hesz⟩]
    simp only [if_neg (show ¬ (1 = 0) by decide)]
    rw [if_pos hr]
    rfl
  · have hkn : k = n := Nat.eq_of_mul_eq_mul_right hesz (hk.symm.trans hl)
    subst hkn
    have hbn := Hp.lt_of_get hb
    have hb1 : (A.push (.cells new ro)).get b = some (.cells cs false) := by rw [get_push_old hbn]; exact hb
    refine ⟨.slice (some ⟨A.n + 1, 0, some esz⟩) (k + 1) (k + 1), ((A.push (.cells new ro)).set b none).push (.cells (cs ++ new) false), ?_, .inr ⟨A.n + 1, k + 1, rfl, by rw [get_push_eq (by simp)], by omega, by simp [hnew, hk, Nat.add_mul], by omega⟩,
      fun z hz hzb => ?_, by simp; omega, rfl⟩
    · unfold appendA
      simp only [hcells]
      rw [if_pos ⟨hcell, hesz⟩]
      simp only [if_neg (show ¬ (1 = 0) by decide), hb1]
      rw [if_pos ⟨by omega, hroom.1, hroom.2, trivial⟩, if_pos (by omega)]
      simp
    · rw [get_push_old (by simp; omega), get_set_ne (by simp; omega) (fun h => hzb (by rw [h]; rfl)), get_push_old hz]
structure HS where
  wc : Int
  ws : Int
  sc : Int
  ss : Int
  may : Int
  must : Int
structure Sec where
  cell : Int
  cl : Int
  ch : Int
  sl : Int
  sh : Int
  toe : Int
  wl : Int
  wh : Int
def Sec.cells (S : Sec) : List Value := [.int .i64 S.cell, .int .i64 S.cl, .int .i64 S.ch, .int .i64 S.sl, .int .i64 S.sh, .int .i64 S.toe, .int .i64 S.wl, .int .i64 S.wh]
def Sec.ok (S : Sec) : Bool := validB S.cl S.ch (-20000) 20000 && (validB S.sl S.sh (-20000) 20000 && (validB S.toe S.toe (-20000) 20000 && validB S.wl S.wh 0 1000))
def holdS (S : Sec) (zs : List Int) : Nat → HS
  | 0 => ⟨S.cl, S.sl, S.ch, S.sh, -1, -1⟩
  | k + 1 =>
    ⟨if S.toe < gi zs (k * 2 + 1) then wr .i64 ((holdS S zs k).wc - S.wh) else (holdS S zs k).wc, if S.toe < gi zs (k * 2 + 1) then wr .i64 ((holdS S zs k).ws - S.wh) else (holdS S zs k).ws,
     if S.toe < gi zs (k * 2) then wr .i64 ((holdS S zs k).sc - S.wl) else (holdS S zs k).sc, if S.toe < gi zs (k * 2) then wr .i64 ((holdS S zs k).ss - S.wl) else (holdS S zs k).ss,
     if (holdS S zs k).may < 0 ∧ min (holdS S zs k).wc (holdS S zs k).ws < gi zs (k * 2 + 1) then k else (holdS S zs k).may,
     if (holdS S zs k).must < 0 ∧ min (holdS S zs k).sc (holdS S zs k).ss < gi zs (k * 2) then k else (holdS S zs k).must⟩
def crL (S : Sec) (zs : List Int) : Nat → List Int
  | 0 => []
  | k + 1 => crL S zs k ++ [(holdS S zs k).wc, (holdS S zs k).sc]
def stL (S : Sec) (zs : List Int) : Nat → List Int
  | 0 => []
  | k + 1 => stL S zs k ++ [(holdS S zs k).ws, (holdS S zs k).ss]
theorem crL_length (S : Sec) (zs : List Int) : ∀ k, (crL S zs k).length = k * 2
  | 0 => rfl
  | k + 1 => by simp [crL, crL_length S zs k]; omega
theorem stL_length (S : Sec) (zs : List Int) : ∀ k, (stL S zs k).length = k * 2
  | 0 => rfl
  | k + 1 => by simp [stL, stL_length S zs k]; omega
def lvl (zs : List Int) (i : Nat) : Bool := validB (gi zs (i * 2)) (gi zs (i * 2 + 1)) (-20000) 20000
def holdE (S : Sec) (zs : List Int) (n : Nat) : Int := if S.ok = false then 3 else if 1000 < n then 9 else if (List.range n).any (fun i => !lvl zs i) = true then 3 else 0
def fateV (a b : Value) (m u : Int) : Value := .agg ⟨[a, b, .int .i64 m, .int .i64 u]⟩
def HoldOut (S : Sec) (zs : List Int) (n N : Nat) (v : Value) (A' : Hp) : Prop :=
  (holdE S zs n ≠ 0 ∧ v = .tuple ⟨[fateV (.slice none 0 0) (.slice none 0 0) 0 0, .int .i64 (holdE S zs n)]⟩) ∨
  (holdE S zs n = 0 ∧ ∃ a b, v = .tuple ⟨[fateV a b (holdS S zs n).may (holdS S zs n).must, .int .i64 0]⟩ ∧ AccS N A' 2 (ints (crL S zs (n + 1))) a ∧ AccS N A' 2 (ints (stL S zs (n + 1))) b)
section
variable {g : Nat} {rd : Option Nat} {T : List Value} {D : List Nat} {A : Hp} {Q : Ex → St → Prop} {V : Value → Hp → Prop}
theorem w154 {a b : Int} (hV : ∀ A', Ext' A A' → V (.bool (validB a b (-20000) 20000)) A') : WF AP KL g 154 [.agg ⟨[.int .i64 a, .int .i64 b]⟩] A V := by
  rw [WF_body (show KL 154 = none from rfl) (show AP 154 = some F154 from rfl)]
  simp (disch := as_aux_lemma => first | omega | simp only [hDs] <;> omega | simp [isCell]) [hRs, takeMarks, resA, resAll, resOne, Value.cells, F154]
  refine w160 fun A' n' o' => ?_
  simp (disch := as_aux_lemma => first | omega | simp only [hDs] <;> omega | simp [isCell]) [hRs, takeMarks, resA, resAll, resOne, Value.cells]
  exact hV A' ⟨by rw [n']; simp; omega, fun x hx => by rw [o' x (by simp; omega), get_push_old hx]⟩
theorem w153 {a b : Int} (hV : ∀ A', Ext' A A' → V (.bool (!validB a b (-20000) 20000)) A') : WF AP KL g 153 [.agg ⟨[.int .i64 a, .int .i64 b]⟩] A V := by
  rw [WF_body (show KL 153 = none from rfl) (show AP 153 = some F153 from rfl)]
  simp (disch := as_aux_lemma => first | omega | simp only [hDs] <;> omega | simp [isCell]) [hRs, takeMarks, resA, resAll, resOne, Value.cells, F153]
  refine w154 fun A' he => ?_
  simp (disch := as_aux_lemma => first | omega | simp only [hDs] <;> omega | simp [isCell]) [hRs, takeMarks, resA, resAll, resOne, Value.cells]
  exact hV A' ((Ext'.push A _).trans he)
theorem says153 {A0 : Hp} {n : Nat} {zs : List Int} : Says g A0 (.func (.func 153) ⟨[]⟩ ⟨[]⟩) n (fun i => .agg ⟨[.int .i64 (gi zs (i * 2)), .int .i64 (gi zs (i * 2 + 1))]⟩) (fun i => !lvl zs i) := by
  intro i hi A V he hV
  simp (disch := as_aux_lemma => first | omega | simp only [hDs] <;> omega | simp [isCell]) [hRs, takeMarks, resA, resAll, resOne, Value.cells]
  exact w153 fun A' he' => hV A' he'
theorem w152 {S : Sec} (hV : ∀ A', Ext' A A' → V (.bool S.ok) A') : WF AP KL g 152 [.agg ⟨S.cells⟩] A V := by
  rw [WF_body (show KL 152 = none from rfl) (show AP 152 = some F152 from rfl)]
  have hX : (A.push (.cells S.cells false)).get A.n = some (.cells S.cells false) := get_push_new
  have ext : ∀ {A1}, Ext' (A.push (.cells S.cells false)) A1 → Ext' A A1 := fun h => (Ext'.push A _).trans h
  simp (disch := as_aux_lemma => first | omega | simp only [hDs] <;> omega | simp [isCell]) [hRs, takeMarks, resA, resAll, resOne, Value.cells, F152, Sec.cells]
  refine w154 fun A1 e1 => ?_
  have h1 := e1.get hX
  cases c1 : validB S.cl S.ch (-20000) 20000 with
  | false =>
    simp (disch := as_aux_lemma => first | omega | simp only [hDs] <;> omega | simp [isCell]) [hRs, takeMarks, resA, resAll, resOne, Value.cells]
    have : S.ok = false := by simp [Sec.ok, c1]
    rw [← this]; exact hV A1 (ext e1)
  | true =>
    simp (disch := as_aux_lemma => first | omega | simp only [hDs] <;> omega | simp [isCell]) [hRs, takeMarks, resA, resAll, resOne, Value.cells, h1, Sec.cells]
    refine w154 fun A2 e2 => ?_
    have h2 := e2.get h1
    cases c2 : validB S.sl S.sh (-20000) 20000 with
    | false =>
      simp (disch := as_aux_lemma => first | omega | simp only [hDs] <;> omega | simp [isCell]) [hRs, takeMarks, resA, resAll, resOne, Value.cells]
      have : S.ok = false := by simp [Sec.ok, c2]
      rw [← this]; exact hV A2 (ext (e1.trans e2))
    | true =>
      simp (disch := as_aux_lemma => first | omega | simp only [hDs] <;> omega | simp [isCell]) [hRs, takeMarks, resA, resAll, resOne, Value.cells, h2, Sec.cells, fillA, setRange]
      refine w154 fun A3 e3 => ?_
      have h3 := e3.get h2
      cases c3 : validB S.toe S.toe (-20000) 20000 with
      | false =>
        simp (disch := as_aux_lemma => first | omega | simp only [hDs] <;> omega | simp [isCell]) [hRs, takeMarks, resA, resAll, resOne, Value.cells]
        have : S.ok = false := by simp [Sec.ok, c3]
        rw [← this]; exact hV A3 (ext (e1.trans (e2.trans e3)))
      | true =>
        simp (disch := as_aux_lemma => first | omega | simp only [hDs] <;> omega | simp [isCell]) [hRs, takeMarks, resA, resAll, resOne, Value.cells, h3, Sec.cells]
        refine w160 fun A4 n4 o4 => ?_
        simp (disch := as_aux_lemma => first | omega | simp only [hDs] <;> omega | simp [isCell]) [hRs, takeMarks, resA, resAll, resOne, Value.cells]
        have : S.ok = validB S.wl S.wh 0 1000 := by simp [Sec.ok, c1, c2, c3]
        rw [← this]; exact hV A4 (ext (e1.trans (e2.trans (e3.trans ⟨by omega, o4⟩))))
theorem w156 {a b l : Int} (hV : ∀ A', Ext' A A' → V (.bool (decide (min a b < l))) A') : WF AP KL g 156 [.agg ⟨[.int .i64 a, .int .i64 b]⟩, .int .i64 l] A V := by
  rw [WF_body (show KL 156 = none from rfl) (show AP 156 = some F156 from rfl)]
  simp (disch := as_aux_lemma => first | omega | simp only [hDs] <;> omega | simp [isCell]) [hRs, takeMarks, resA, resAll, resOne, Value.cells, F156]
  exact hV _ (Ext'.push A _)
theorem w157 {a b l : Int} (hg : g ≤ A.n) (hV : ∀ A', Ext' A A' → V (.agg ⟨[.int .i64 (wr .i64 (a - l)), .int .i64 (wr .i64 (b - l))]⟩) A') : WF AP KL g 157 [.agg ⟨[.int .i64 a, .int .i64 b]⟩, .int .i64 l] A V := by
  rw [WF_body (show KL 157 = none from rfl) (show AP 157 = some F157 from rfl)]
  simp (disch := as_aux_lemma => first | omega | simp only [hDs] <;> omega | simp [isCell]) [hRs, takeMarks, resA, resAll, resOne, Value.cells, F157, fillA, setRange, storeB_cells, set_push_eq]
  exact hV _ ((Ext'.push A _).trans (Ext'.push _ _))
theorem w155 {N X6 X7 : Nat} {a b : Value} {ca cb : List Int} {may must wc ws sc ss : Int} {k : Nat} (h6 : A.get X6 = some (.cells [a, b, .int .i64 may, .int .i64 must] false)) (h7 : A.get X7 = some (.cells [.int .i64 wc, .int .i64 ws, .int .i64 sc, .int .i64 ss] false))
    (ha : AccS N A 2 (ints ca) a) (hb : AccS N A 2 (ints cb) b) (hab : ∀ z, blkOf a = some z → blkOf b ≠ some z) (hla : ca.length = k * 2) (hlb : cb.length = k * 2) (hk : k < 10000) (hg6 : g ≤ X6) (hgN : g ≤ N) (h6N : X6 < N) (h7N : X7 < N) (h67 : X6 ≠ X7) (hN : N ≤ A.n)
    (hV : ∀ A' a' b', A'.get X6 = some (.cells [a', b', .int .i64 may, .int .i64 must] false) → AccS N A' 2 (ints (ca ++ [wc, sc])) a' → AccS N A' 2 (ints (cb ++ [ws, ss])) b' → (∀ z, blkOf a' = some z → blkOf b' ≠ some z) → A.n ≤ A'.n → (∀ z, z < A.n → z ≠ X6 → blkOf a ≠ some z → blkOf b ≠ some z → A'.get z = A.get z) → V (.tuple ⟨[]⟩) A') :
    WF AP KL g 155 [.pointer (some ⟨X6, 0, none⟩), .pointer (some ⟨X7, 0, none⟩)] A V := by
  rw [WF_body (show KL 155 = none from rfl) (show AP 155 = some F155 from rfl)]
  obtain ⟨a', A1, ea, ha', ka, na, ba⟩ := add_keep (g := g) (bytes := 16) (n := k) (ro := false) (new := [.int .i64 wc, .int .i64 sc]) ha hgN hN rfl (by decide) rfl (by simpa using hla) (by unfold room; omega)
  have h6n := Hp.lt_of_get h6
  have h7n := Hp.lt_of_get h7
  have nota : ∀ z, z < N → blkOf a ≠ some z := fun z hz h => by have := (ha.blk_ge h).1; omega
  have notb : ∀ z, z < N → blkOf b ≠ some z := fun z hz h => by have := (hb.blk_ge h).1; omega
  have h61 : A1.get X6 = _ := (ka X6 h6n (nota _ h6N)).trans h6
  obtain ⟨B, hB⟩ : ∃ B, B = A1.set X6 (some (.cells [a', b, .int .i64 may, .int .i64 must] false)) := ⟨_, rfl⟩
  have hBx : ∀ z, z ≠ X6 → B.get z = A1.get z := fun z hz => by rw [hB, get_set_ne (by omega) hz]
  have hB6 : B.get X6 = some (.cells [a', b, .int .i64 may, .int .i64 must] false) := by rw [hB]; exact get_set_same h61
  have hBn : B.n = A1.n := by rw [hB]; rfl
  have hB7 : B.get X7 = _ := (hBx X7 (Ne.symm h67)).trans ((ka X7 h7n (nota _ h7N)).trans h7)
  have hbB : AccS N B 2 (ints cb) b := AccS.keepB hb fun z hz => by
    have := hb.blk_ge hz
    rw [hBx z (by omega), ka z this.2 fun h => hab z h hz]
  obtain ⟨b', A2, eb, hb', kb, nb, bb⟩ := add_keep (g := g) (bytes := 16) (n := k) (ro := false) (new := [.int .i64 ws, .int .i64 ss]) hbB hgN (by omega) rfl (by decide) rfl (by simpa using hlb) (by unfold room; omega)
  have h62 : A2.get X6 = _ := (kb X6 (by omega) (notb _ h6N)).trans hB6
  have hsetA : ∀ (p : _) n1 c1, a' = .slice p n1 c1 → True := fun _ _ _ _ => trivial
  obtain ⟨pa, n1, c1, rfl⟩ := ha'.isSlice
  obtain ⟨pb, n2, c2, rfl⟩ := hb'.isSlice
  simp (disch := as_aux_lemma => first | omega | simp only [hDs] <;> omega | simp [isCell]) [hRs, takeMarks, resA, resAll, resOne, Value.cells, F155, h6, h7, slitA, fillA, setRange, ea, h61, storeB_cells, ← hB, hB6, hB7, eb, h62]
  have hC : ∀ z, z ≠ X6 → (A2.set X6 (some (.cells [.slice pa n1 c1, .slice pb n2 c2, .int .i64 may, .int .i64 must] false))).get z = A2.get z := fun z hz => get_set_ne (by omega) hz
  refine hV _ _ _ (get_set_same h62) ?_ ?_ ?_ ?_ ?_
  · rw [ints_append]
    refine AccS.keepB ha' fun z hz => ?_
    have hz1 := ha'.blk_ge hz
    rw [hC z (by omega), kb z (by omega) fun h => ?_, hBx z (by omega)]
    rw [ba] at hz; cases hz
    have := (hb.blk_ge h).2; omega
  · rw [ints_append]
    refine AccS.keepB hb' fun z hz => hC z ?_
    have := (hb'.blk_ge hz).1; omega
  · intro z hz hz'
    have h3 := (ha'.blk_ge hz).2
    rw [ba] at hz; rw [bb] at hz'
    have h1 := Option.some.inj hz
    have h2 := Option.some.inj hz'
    omega
  · simp; omega
  · intro z hz hz6 hza hzb
    rw [hC z hz6, kb z (by omega) hzb, hBx z hz6, ka z hz hza]
end
end Go.Ab.Dike
