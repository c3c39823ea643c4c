/- The coast, and rows of small numbers, among a law's arguments. -/
import Derived.Test.YtmmpjfknmdlpoaaZ19
import Derived.Test.YtmmpjfknmdlpoaaZ18
import Derived.Test.YtmmpjfknmdlpoaaZ14
import Derived.DataShut
set_option linter.unusedSimpArgs false
set_option linter.unusedVariables false
set_option linter.unusedSectionVars false
namespace Go.Ab.Wave
open Go Go.Ab
section
variable {g : Nat} {D : List Nat} {rd : Option Nat} {Q : Ex → St → Prop} {A : Hp} {V : Value → Hp → Prop}
theorem trues_part {n i : Nat} (hi : i < n) : partA (bls (List.replicate (n * 8) true)) (i * 8) (some 8) = some (.agg ⟨[.bool true, .bool true, .bool true, .bool true, .bool true, .bool true, .bool true, .bool true]⟩) := by
  have hl : (bls (List.replicate (n * 8) true)).length = n * 8 := by simp [bls]
  rw [partA_some (by rw [hl]; omega)]
  have e : ((bls (List.replicate (n * 8) true)).drop (i * 8)).take 8 = List.replicate 8 (.bool true) := by
    unfold bls
    rw [List.map_replicate, List.drop_replicate, List.take_replicate, show min 8 (n * 8 - i * 8) = 8 by omega]
  rw [e]
  rfl
theorem loop5f {T0 : List Value} (h357 : tget T0 357 = .agg ⟨[.bool true, .bool true, .bool true, .bool true, .bool true, .bool true, .bool true, .bool true]⟩)
    (hQ : ∀ T', (∀ i, (i < 31 ∨ (351 ≤ i ∧ i < 355)) → tget T' i = tget T0 i) → Q (.exit 10) ⟨T', D, A⟩) :
    ∀ (k j : Nat) (T : List Value), j + k = 8 → (∀ i, (i < 31 ∨ (351 ≤ i ∧ i < 358)) → tget T i = tget T0 i) → tget T 358 = .int .i64 j → W AP KL g rd (.loop body5f) ⟨T, D, A⟩ Q := by
  intro k
  induction k with
  | zero =>
    intro j T hj hT t358
    have : j = 8 := by omega
    subst this
    rw [W_loop]
    simp (disch := as_aux_lemma => first | omega | simp only [hDs] <;> omega | simp [isCell]) [hRs, takeMarks, resA, resAll, resOne, Value.cells, body5f, t358]
    refine hQ _ fun i hi => ?_
    simp only [tget_tset]
    rw [if_neg (by omega)]
    exact hT i (by omega)
  | succ k ih =>
    intro j T hj hT t358
    have t357 := (hT 357 (by omega)).trans h357
    have hx : indexA 8 1 false (.agg ⟨[.bool true, .bool true, .bool true, .bool true, .bool true, .bool true, .bool true, .bool true]⟩) (.int .i64 j) = some (.bool true) := by
      have : j = 0 ∨ j = 1 ∨ j = 2 ∨ j = 3 ∨ j = 4 ∨ j = 5 ∨ j = 6 ∨ j = 7 := by omega
      rcases this with rfl | rfl | rfl | rfl | rfl | rfl | rfl | rfl <;> rfl
    rw [W_loop]
    simp (disch := as_aux_lemma => first | omega | simp only [hDs] <;> omega | simp [isCell]) [hRs, takeMarks, resA, resAll, resOne, Value.cells, body5f, t358, show (j : Int) < 8 by omega, t357, hx]
    refine ih (j + 1) _ (by omega) (fun i hi => ?_) ?_
    · simp only [tget_tset]
      repeat (rw [if_neg (by omega)])
      exact hT i hi
    · simp [wrId (n := (j : Int) + 1) (by omega) (by omega)]
theorem loop5e {n e : Nat} {A0 : Hp} {T0 : List Value} (hn : n < 1000000) (hg : g ≤ A0.n) (ge : A0.get e = some (.cells (bls (List.replicate (n * 8) true)) false))
    (hQ : ∀ T' A', Ext' A0 A' → (∀ i, i < 30 → tget T' i = tget T0 i) → Q (.exit 8) ⟨T', D, A'⟩) :
    ∀ (k i : Nat) (T : List Value) (A : Hp), i + k = n → Ext' A0 A → (∀ i, i < 30 → tget T i = tget T0 i) → tget T 351 = .slice (some ⟨e, 0, some 8⟩) n n → tget T 352 = .int .i64 n → tget T 353 = .int .i64 i → W AP KL g rd (.loop body5e) ⟨T, D, A⟩ Q := by
  intro k
  induction k with
  | zero =>
    intro i T A hi kA hT t351 t352 t353
    have : i = n := by omega
    rw [W_loop]
    simp (disch := as_aux_lemma => first | omega | simp only [hDs] <;> omega | simp [isCell]) [hRs, takeMarks, resA, resAll, resOne, Value.cells, body5e, t352, t353, show ¬ ((i : Int) < n) by omega]
    refine hQ _ A kA fun j hj => ?_
    simp only [tget_tset]
    rw [if_neg (by omega)]
    exact hT j hj
  | succ k ih =>
    intro i T A hi kA hT t351 t352 t353
    have geA := kA.get ge
    have ne := Hp.lt_of_get geA
    have kn := kA.1
    have tp := trues_part (n := n) (i := i) (by omega)
    rw [W_loop]
    simp (disch := as_aux_lemma => first | omega | simp only [hDs] <;> omega | simp [isCell]) [hRs, takeMarks, resA, resAll, resOne, Value.cells, body5e, t351, t352, t353, show (i : Int) < n by omega, idxSA_ok, geA, tp, storeB_cells, setRange_all]
    refine loop5f (T0 := _) ?_ (fun T1 hT1 => ?_) 8 0 _ rfl (fun _ _ => rfl) ?_
    · simp
    · have r353 := hT1 353 (by omega)
      simp [t353] at r353
      simp (disch := as_aux_lemma => first | omega | simp only [hDs] <;> omega | simp [isCell]) [hRs, takeMarks, resA, resAll, resOne, Value.cells, r353]
      refine ih (i + 1) _ _ (by omega) (kA.trans (Ext'.push _ _)) (fun j hj => ?_) ?_ ?_ ?_
      · simp only [tget_tset]
        repeat (rw [if_neg (by omega)])
        rw [hT1 j (by omega)]
        simp only [tget_tset]
        repeat (rw [if_neg (by omega)])
        exact hT j hj
      · have := hT1 351 (by omega)
        simp [t351] at this
        simp [this]
      · have := hT1 352 (by omega)
        simp [t352] at this
        simp [this]
      · simp [wrId (n := (i : Int) + 1) (by omega) (by omega)]
    · simp
theorem zerosB8 {n : Nat} : zeros n [.bool false, .bool false, .bool false, .bool false, .bool false, .bool false, .bool false, .bool false] = bls ((List.range (n * 8)).map fun _ => false) := by
  unfold zeros bls
  apply List.ext_getElem (by simp)
  intro i h1 h2
  simp only [List.getElem_map, List.getElem_range, List.length_cons, List.length_nil]
  have : i % (0 + 1 + 1 + 1 + 1 + 1 + 1 + 1 + 1) < 8 := Nat.mod_lt _ (by omega)
  obtain ⟨j, hj⟩ : ∃ j, j = i % (0 + 1 + 1 + 1 + 1 + 1 + 1 + 1 + 1) := ⟨_, rfl⟩
  rw [← hj] at this ⊢
  rcases j with _ | _ | _ | _ | _ | _ | _ | _ | j <;> first | rfl | omega
theorem makeB8 {A : Hp} {n : Nat} (hn : n < 1000000) : makeSA 8 8 [.bool false, .bool false, .bool false, .bool false, .bool false, .bool false, .bool false, .bool false] (.int .i64 n) (.int .i64 n) A = some (.slice (some ⟨A.n, 0, some 8⟩) n n, A.push (.cells (bls ((List.range (n * 8)).map fun _ => false)) false)) := by
  unfold makeSA
  simp only
  rw [if_pos ⟨by omega, by omega, by unfold room; omega, by unfold room; omega⟩, zerosB8]
  rfl
theorem srcsE_of {P : Par} {ss : List Int} : ∀ {k i : Nat}, (∀ j, i ≤ j → j < i + k → (srcAt ss j).err P.l.length = 0) → srcsE P ss i k = 0
  | 0, _, _ => rfl
  | k + 1, i, h => by
    unfold srcsE
    rw [if_pos (h i (Nat.le_refl _) (by omega))]
    exact srcsE_of fun j h1 h2 => h j (by omega) (by omega)
set_option maxHeartbeats 2000000 in
theorem w5 {C : Coast} {m : Nat} {ls : List Int} {lv : Value} {kp : Int} (hC : C.Ok) (hAt : C.At A) (hg : g ≤ A.n) (hl : ∀ i, 0 ≤ gi ls i ∧ gi ls i ≤ 65535) (hr : RdS A 4 m (kints .u16 ls) lv) (hQ : ∀ A', V (.bool true) A') :
    WF AP KL g 5 [.agg ⟨C.cells⟩, lv, .int .u8 kp] A V := by
  have hlen := hr.len
  have wh := hC.wh
  obtain ⟨B, hB⟩ : ∃ B, B = A.push (.cells C.cells false) := ⟨_, rfl⟩
  have kB : Ext' A B := by rw [hB]; exact Ext'.push _ _
  have b3 : B.get A.n = some (.cells C.cells false) := by rw [hB]; exact get_push_new
  have nB : B.n = A.n + 1 := by rw [hB]; rfl
  rw [WF_body rfl (show AP 5 = some F5 from rfl)]
  simp (disch := as_aux_lemma => first | omega | simp only [hDs] <;> omega | simp [isCell]) [hRs, takeMarks, resA, resAll, resOne, Value.cells]
  rw [← hB]
  by_cases c0 : m < 1
  · simp (disch := as_aux_lemma => first | omega | simp only [hDs] <;> omega | simp [isCell]) [hRs, takeMarks, resA, resAll, resOne, Value.cells, hlen, show (m : Int) < 1 by omega, GuardW_u, WF_spec (show KL 10 = some (memoSpec [mWorks]) from rfl), works_eq]
    exact hQ _
  by_cases c1 : 5 < m
  · simp (disch := as_aux_lemma => first | omega | simp only [hDs] <;> omega | simp [isCell]) [hRs, takeMarks, resA, resAll, resOne, Value.cells, hlen, show ¬ ((m : Int) < 1) by omega, show (5 : Int) < m by omega, GuardW_u, WF_spec (show KL 10 = some (memoSpec [mWorks]) from rfl), works_eq]
    exact hQ _
  simp (disch := as_aux_lemma => first | omega | simp only [hDs] <;> omega | simp [isCell]) [hRs, takeMarks, resA, resAll, resOne, Value.cells, hlen, show ¬ ((m : Int) < 1) by omega, show ¬ ((5 : Int) < m) by omega, GuardW_u, b3, Coast.part]
  refine w24 hC (hAt.mono kB.2) (by omega) fun A1 sl k1 acc1 => ?_
  obtain ⟨sp, sm, sc, hsl⟩ := acc1.isSlice
  obtain ⟨P, hP⟩ : ∃ P, P = C.P sl := ⟨_, rfl⟩
  have pl : P.l = C.gnd C.n := by rw [hP]; rfl
  have plen : P.l.length = C.n := by rw [pl, Coast.gnd_len]
  have psl : P.sl = sl := by rw [hP]; rfl
  have pok : POk P := by rw [hP]; exact coast_ok hC sl
  have hgr1 : groundOf A1 P.sl = some P.l := by rw [psl, pl]; exact AccS.ground acc1 (by rw [Coast.gnd_len]; omega)
  have e0 : C.w = P.w ∧ C.h = P.h ∧ (500 : Int) = P.s := by rw [hP]; exact ⟨rfl, rfl, rfl⟩
  rw [← hP, e0.1, e0.2.1, e0.2.2, hsl]
  obtain ⟨B1, hB1⟩ : ∃ B1, B1 = ((A1.push (.cells [.int .i64 P.w, .int .i64 P.h, .int .i64 P.s, P.sl] false)).push (.cells [.int .i64 P.slo, .int .i64 P.shi] false)).push (.cells [.int .i64 P.k0, .int .i64 P.k1, .int .i64 P.l0, .int .i64 P.l1, .int .i64 P.o0, .int .i64 P.o1] false) := ⟨_, rfl⟩
  have kB1 : Ext' A1 B1 := by rw [hB1]; exact ((Ext'.push _ _).trans (Ext'.push _ _)).trans (Ext'.push _ _)
  have b7 : B1.get A1.n = some (.cells [.int .i64 P.w, .int .i64 P.h, .int .i64 P.s, P.sl] false) := by rw [hB1]; exact push3_a
  have b8 : B1.get (A1.n + 1) = some (.cells [.int .i64 P.slo, .int .i64 P.shi] false) := by rw [hB1]; exact push3_b
  have b9 : B1.get (A1.n + 2) = some (.cells [.int .i64 P.k0, .int .i64 P.k1, .int .i64 P.l0, .int .i64 P.l1, .int .i64 P.o0, .int .i64 P.o1] false) := by rw [hB1]; exact push3_c
  have nB1 : B1.n = A1.n + 3 := by rw [hB1]; rfl
  have n1 := k1.1
  have hB1' := hB1
  rw [psl, hsl] at hB1'
  simp (disch := as_aux_lemma => first | omega | simp only [hDs] <;> omega | simp [isCell]) [hRs, takeMarks, resA, resAll, resOne, Value.cells, gridV, spn, modelV, J, set_push_eq, storeB_cells, setRange_all, hlen]
  rw [← hB1']
  have hn : 0 < P.l.length ∧ P.l.length < 1000000 := by omega
  obtain ⟨n, hn'⟩ : ∃ n, n = P.l.length := ⟨_, rfl⟩
  refine loop5a (n := P.l.length) (m := m) (b7 := A1.n) (w := P.w) (h := P.h) (s := P.s) (kp := kp) (sl := P.sl) (lv := lv) (ls := ls) (A0 := B1) (T0 := _) (N := B1.n) (by omega) hn hl (by omega) (Nat.le_refl _) (rd_len (groundOf_mono hgr1 kB1.2)) b7 (by omega) (fun A' h => hr.mono fun x hx => by rw [h x (by omega), kB1.2 x (by omega), k1.2 x (by omega), kB.2 x hx]) (fun T2 A2 v1 v2 n2 hold2 two t10 t11 hT2 => ?_) m 0 _ B1 (.slice none 0 0) (.slice none 0 0) (by omega) (Nat.le_refl _) (fun _ _ => rfl) ⟨AccS.nil, AccS.nil, fun _ _ _ _ _ _ _ _ h => by cases h⟩ ?_ ?_ (fun _ _ => rfl) ?_ ?_ ?_ ?_ ?_
  · have q7 := hT2 7 (by omega)
    have q8 := hT2 8 (by omega)
    have q9 := hT2 9 (by omega)
    simp at q7 q8 q9
    have c7 := (hold2 _ (Hp.lt_of_get b7)).trans b7
    have c8 := (hold2 _ (Hp.lt_of_get b8)).trans b8
    have c9 := (hold2 _ (Hp.lt_of_get b9)).trans b9
    have hgr2 : groundOf A2 P.sl = some P.l := groundOf_mono (groundOf_mono hgr1 kB1.2) hold2
    obtain ⟨ss, hss⟩ : ∃ ss, ss = anZ P.l.length ls (anL m) := ⟨_, rfl⟩
    obtain ⟨fs, hfs⟩ : ∃ fs, fs = anZ P.l.length ls (fwL kp m) := ⟨_, rfl⟩
    rw [← hss, ← hfs] at two
    have anl : (anL m).length = m := by unfold anL; rw [List.length_range]
    have fwl : (fwL kp m).length ≤ m := by unfold fwL; exact Nat.le_trans (List.length_filter_le _ _) (by simp)
    obtain ⟨mf, hmf⟩ : ∃ mf, mf = (fwL kp m).length := ⟨_, rfl⟩
    have rs2 : RdS A2 5 m (ints ss) v1 := two.a.rd (by rw [ints_length, hss, anZ_len, anl]) (by decide)
    have rf2 : RdS A2 5 mf (ints fs) v2 := two.b.rd (by rw [ints_length, hfs, anZ_len, hmf]) (by decide)
    have srcA : ∀ j, j < m → srcAt ss j = anyS P.l.length ls j := fun j hj => by
      rw [hss, anZ_src (by rw [anl]; exact hj)]
      unfold anL
      rw [List.getElem_range]
    have srcF : ∀ j, ∀ hj : j < mf, ∃ k, k < m ∧ srcAt fs j = anyS P.l.length ls k := fun j hj => by
      have hj' : j < (fwL kp m).length := by rw [← hmf]; exact hj
      have : (fwL kp m)[j] ∈ fwL kp m := List.getElem_mem hj'
      have hlt := List.mem_range.1 (List.mem_filter.1 this).1
      exact ⟨_, hlt, by rw [hfs, anZ_src hj']⟩
    have errA : ∀ j, j < m → (srcAt ss j).err P.l.length = 0 := fun j hj => by rw [srcA j hj]; exact any_err (by omega) hl j
    have errF : ∀ j, j < mf → (srcAt fs j).err P.l.length = 0 := fun j hj => by obtain ⟨k, _, e⟩ := srcF j hj; rw [e]; exact any_err (by omega) hl k
    have hpr := prep_of pok
    have eA : waveE P ss m = 0 := by unfold waveE; rw [if_pos hpr, if_neg (by omega)]; exact srcsE_of fun j _ h => errA j (by omega)
    have eF : waveE P fs mf = 0 := by unfold waveE; rw [if_pos hpr, if_neg (by omega)]; exact srcsE_of fun j _ h => errF j (by omega)
    obtain ⟨n', hm'⟩ : ∃ n', m = n' + 1 := ⟨m - 1, by omega⟩
    have rA : waveRes P ss m = waveL P ss n' := by unfold waveRes; rw [if_pos eA, if_neg (by omega), hm']; rfl
    simp (disch := as_aux_lemma => first | omega | simp only [hDs] <;> omega | simp [isCell]) [hRs, takeMarks, resA, resAll, resOne, Value.cells, q7, q8, q9, ptrV, c7, c8, c9, t10]
    refine w19 (P := P) (ss := ss) (n := m) pok.small hgr2 (by omega) rs2 (by omega) fun A3 wv k3 acc3 fin3 => ?_
    rw [rA] at acc3
    have rw3 : RdS A3 8 P.l.length (ints (waveL P ss n')) wv := acc3.rd (by rw [ints_length, waveL_len]) (by decide)
    have n3 := k3.1
    have d7 := k3.get c7
    have d8 := k3.get c8
    have d9 := k3.get c9
    have hgr3 := groundOf_mono hgr2 k3.2
    simp (disch := as_aux_lemma => first | omega | simp only [hDs] <;> omega | simp [isCell]) [hRs, takeMarks, resA, resAll, resOne, Value.cells, eA, q7, q8, ptrV, d7, d8]
    refine w21 (l := P.l) (n := P.l.length) (zs := waveL P ss n') (lv := wv) hgr3 rw3 (by omega) (by omega) fun dv' A4 p1 p2 acc4 => ?_
    have de := dryErr_ok pok
    rw [show dryRes P.w P.h P.s P.l P.slo P.shi P.l.length (waveL P ss n') = dryL P.shi (flat2 P.l) (waveL P ss n') P.l.length from by unfold dryRes; rw [if_pos de]] at acc4
    have k4 : Ext' A3 A4 := ⟨p1, p2⟩
    have rd4 : RdS A4 1 P.l.length (dryL P.shi (flat2 P.l) (waveL P ss n') P.l.length) dv' := acc4.rd (by rw [dryL_len, Nat.mul_one]) (by decide)
    have k24 := k3.trans k4
    have e7 := k4.get d7
    have e8 := k4.get d8
    have e9 := k4.get d9
    have hgr4 := groundOf_mono hgr3 p2
    have rw4 := rw3.mono p2
    have rs4 := rs2.mono k24.2
    have rf4 := rf2.mono k24.2
    have n4 := k24.1
    have base : AnyB P ss (waveL P ss n') m A1.n (A1.n + 1) (A1.n + 2) v1 wv dv' A4 := ⟨e7, e8, e9, hgr4, rs4, rw4, rd4⟩
    have lg4 := rd_len hgr4
    simp (disch := as_aux_lemma => first | omega | simp only [hDs] <;> omega | simp [isCell]) [hRs, takeMarks, resA, resAll, resOne, Value.cells, de, q7, ptrV, e7, rw4.len, rd4.len, lg4, makeB8 hn.2, t10, rs4.len]
    obtain ⟨B4, hB4⟩ : ∃ B4, B4 = A4.push (.cells (bls ((List.range (P.l.length * 8)).map fun _ => false)) false) := ⟨_, rfl⟩
    have kB4 : Ext' A4 B4 := by rw [hB4]; exact Ext'.push _ _
    have gB4 : B4.get A4.n = some (.cells (bls ((List.range (P.l.length * 8)).map fun _ => false)) false) := by rw [hB4]; exact get_push_new
    have nB4 : B4.n = A4.n + 1 := by rw [hB4]; rfl
    rw [← hB4]
    refine loop5b (P := P) (ss := ss) (m := m) (n' := n') (b7 := A1.n) (b8 := A1.n + 1) (b9 := A1.n + 2) (e := A4.n) (sv := v1) (wv := wv) (dv' := dv') (A00 := A4) (A0 := B4) (T0 := _) pok (by omega) hm' errA (by omega) rfl (by omega) kB4.2 base m 0 _ B4 (fun _ => false) (by omega) (Keep.refl _ _) gB4 (fun s hs => by omega) (fun s hs => by omega) (fun _ _ => rfl) ?_ ?_ ?_ ?_ ?_ ?_ ?_ ?_ ?_ (fun T5 A5 f hT5 k5 ge5 hF hf => ?_)
    · simp [q7, ptrV]
    · simp [q8, ptrV]
    · simp [q9, ptrV]
    · simp
    · simp
    · simp
    · simp
    · simp
    · simp
    · have r19 := hT5 19 (by omega)
      have r7 := hT5 7 (by omega)
      have r8 := hT5 8 (by omega)
      have r9 := hT5 9 (by omega)
      have r11 := hT5 11 (by omega)
      have r15 := hT5 15 (by omega)
      simp at r19
      simp [q7] at r7
      simp [q8] at r8
      simp [q9] at r9
      simp [t11] at r11
      simp at r15
      have n5 := k5.1
      have lo5 : ∀ x, x < A4.n → A5.get x = A4.get x := fun x hx => by rw [k5.2 x (by omega) (by omega), kB4.2 x hx]
      have ftrue : (List.range (P.l.length * 8)).map f = List.replicate (P.l.length * 8) true := by
        refine List.eq_replicate_iff.2 ⟨by simp, fun b hb => ?_⟩
        obtain ⟨o, ho, rfl⟩ := List.mem_map.1 hb
        have ho' := List.mem_range.1 ho
        obtain ⟨j, hj, e⟩ := (waveL_ends (P := P) (ss := ss) (o := o) ho' n').2
        exact hf j (by omega) o ho' e
      rw [ftrue] at ge5
      simp (disch := as_aux_lemma => first | omega | simp only [hDs] <;> omega | simp [isCell]) [hRs, takeMarks, resA, resAll, resOne, Value.cells, r19]
      refine loop5e (n := P.l.length) (e := A4.n) (A0 := A5) (T0 := T5) hn.2 (by omega) ge5 (fun T6 A6 k6 hT6 => ?_) P.l.length 0 _ A5 (by omega) (Ext'.refl _) (fun j hj => ?_) ?_ ?_ ?_
      · have s7 := (hT6 7 (by omega)).trans r7
        have s8 := (hT6 8 (by omega)).trans r8
        have s9 := (hT6 9 (by omega)).trans r9
        have s11 := (hT6 11 (by omega)).trans r11
        have s15 := (hT6 15 (by omega)).trans r15
        have lo6 : ∀ x, x < A4.n → A6.get x = A4.get x := fun x hx => by rw [k6.2 x (by omega), lo5 x hx]
        have rf6 := rf4.mono lo6
        by_cases hz : mf = 0
        · simp (disch := as_aux_lemma => first | omega | simp only [hDs] <;> omega | simp [isCell]) [hRs, takeMarks, resA, resAll, resOne, Value.cells, s11, rf6.len, hz, WF_spec (show KL 10 = some (memoSpec [mWorks]) from rfl), works_eq]
          exact hQ _
        have H6 := base.mono lo6
        have n6 := k6.1
        obtain ⟨nf, hnf⟩ : ∃ nf, mf = nf + 1 := ⟨mf - 1, by omega⟩
        have rF : waveRes P fs mf = waveL P fs nf := by unfold waveRes; rw [if_pos eF, if_neg hz, hnf]; rfl
        simp (disch := as_aux_lemma => first | omega | simp only [hDs] <;> omega | simp [isCell]) [hRs, takeMarks, resA, resAll, resOne, Value.cells, s11, rf6.len, hz, show ¬ ((mf : Int) = 0) by omega, s7, s8, s9, ptrV, H6.g7, H6.g8, H6.g9]
        refine w19 (P := P) (ss := fs) (n := mf) pok.small H6.gr (by omega) rf6 (by omega) fun A7 fv k7 acc7 fin7 => ?_
        rw [rF] at acc7
        have rv7 : RdS A7 8 P.l.length (ints (waveL P fs nf)) fv := acc7.rd (by rw [ints_length, waveL_len]) (by decide)
        have hfin := fin7 eF
        simp (disch := as_aux_lemma => first | omega | simp only [hDs] <;> omega | simp [isCell]) [hRs, takeMarks, resA, resAll, resOne, Value.cells, eF, s15]
        refine w26 (a := waveL P fs nf) (b := waveL P ss n') (by omega) rv7 (H6.rw'.mono k7.2) (fun c hc r hr => few_in (fun j hj => (hfin.one j (by omega)).2) (fun j hj => ?_) hc r hr) fun A8 k8 => ?_
        · obtain ⟨k, hk, e⟩ := srcF j (by omega)
          exact ⟨k, by omega, by rw [srcA k hk, e]⟩
        · simp (disch := as_aux_lemma => first | omega | simp only [hDs] <;> omega | simp [isCell]) [hRs, takeMarks, resA, resAll, resOne, Value.cells, WF_spec (show KL 10 = some (memoSpec [mWorks]) from rfl), works_eq]
          exact hQ _
      · simp only [tget_tset]
        repeat (rw [if_neg (by omega)])
      all_goals simp
  all_goals simp [ptrV]
end
end Go.Ab.Wave
namespace Go.Ab.Wave
open Go Go.Ab
def allK (k : IntKind) : Ty → Bool
  | .int k' => decide (k' = k)
  | .unit => true
  | .pair a b => allK k a && allK k b
  | _ => false
theorem kints_append {k : IntKind} (a b : List Int) : kints k (a ++ b) = kints k a ++ kints k b := List.map_append ..
theorem sh_k {rows : List (List Value)} {k : IntKind} : ∀ {t : Ty} {cs : List Value}, allK k t = true → Sh rows t cs → ∃ zs : List Int, cs = kints k zs ∧ ∀ z ∈ zs, k.min ≤ z ∧ z ≤ k.max
  | .int k', cs, h, ⟨n, hn, hw⟩ => by
    have e : k' = k := by simpa [allK] using h
    subst e
    exact ⟨[n], hn, fun z hz => by rw [List.mem_singleton] at hz; subst hz; exact (Lit.wf_int_iff k' z).1 hw⟩
  | .unit, cs, _, h => ⟨[], h, fun z hz => by cases hz⟩
  | .pair a b, cs, h, ⟨l, r, h1, h2, h3⟩ => by
    simp only [allK, Bool.and_eq_true] at h
    obtain ⟨za, ea, ba⟩ := sh_k h.1 h2
    obtain ⟨zb, eb, bb⟩ := sh_k h.2 h3
    refine ⟨za ++ zb, by rw [h1, ea, eb, kints_append], fun z hz => ?_⟩
    rcases List.mem_append.1 hz with h' | h'
    · exact ba z h'
    · exact bb z h'
  | .bool, _, h, _ => by simp [allK] at h
  | .str, _, h, _ => by simp [allK] at h
  | .slice _, _, h, _ => by simp [allK] at h
theorem kints_flatMap {k : IntKind} {f : Nat → List Int} {n : Nat} : (List.range n).flatMap (fun i => kints k (f i)) = kints k ((List.range n).flatMap f) := by
  simp only [kints, List.map_flatMap]
theorem sh_slice_k {rows : List (List Value)} {k : IntKind} {e : Ty} {cs : List Value} (he : allK k e = true) (h : Sh rows (.slice e) cs) :
    ∃ (n : Nat) (zs : List Int) (sl : Value), cs = [sl] ∧ RdS (roHp rows) e.size n (kints k zs) sl ∧ n ≤ maxLen ∧ ∀ z ∈ zs, k.min ≤ z ∧ z ≤ k.max := by
  rcases h with rfl | ⟨x, n, q, row, rfl, hn, hrow, hlen, hs, f, rfl, hf⟩
  · exact ⟨0, [], _, rfl, ⟨by simp [kints], .inl ⟨rfl, rfl⟩⟩, Nat.zero_le _, fun z hz => by cases hz⟩
  · obtain ⟨p, hp⟩ := Go.Deep.choose_lt (α := List Int) (p := fun i p => f i = kints k p ∧ ∀ z ∈ p, k.min ≤ z ∧ z ≤ k.max) fun i hi => sh_k he (hf i hi).1
    have e1 : (List.range n).flatMap f = kints k ((List.range n).flatMap p) := by
      rw [← kints_flatMap]
      exact Go.Deep.flatMap_congr_range fun i hi => (hp i hi).1
    refine ⟨n, (List.range n).flatMap p, _, rfl, ⟨by rw [← e1, hlen], .inr ⟨x, q, true, rfl, by rw [roHp_get, hrow, ← e1]; rfl⟩⟩, hn, fun z hz => ?_⟩
    obtain ⟨i, hi, hz⟩ := List.mem_flatMap.1 hz
    exact (hp i (by simpa using hi)).2 z hz
theorem gi_rng {l : List Int} {a b : Int} (h : ∀ z ∈ l, a ≤ z ∧ z ≤ b) (ha : a ≤ 0) (hb : 0 ≤ b) (i : Nat) : a ≤ gi l i ∧ gi l i ≤ b := by
  unfold gi
  rw [List.getD_eq_getElem?_getD]
  rcases Nat.lt_or_ge i l.length with hi | hi
  · rw [List.getElem?_eq_getElem hi]
    exact h _ (List.getElem_mem hi)
  · rw [List.getElem?_eq_none hi]
    exact ⟨ha, hb⟩
def tCoast : Ty := .pair (.int .u8) (.pair (.int .u8) (.pair (.slice (.int .i16)) (.pair (.slice (.int .u8)) (.pair (.int .i8) (.pair (.int .u8) (.pair (.rep 2 (.int .u16)) (.pair (.rep 2 (.int .u16)) (.pair (.rep 2 (.int .u8)) .unit))))))))
theorem sh_int {rows : List (List Value)} {k : IntKind} {cs : List Value} (h : Sh rows (.int k) cs) : ∃ n, cs = [.int k n] ∧ k.min ≤ n ∧ n ≤ k.max := by
  obtain ⟨n, h1, h2⟩ := h
  exact ⟨n, h1, (Lit.wf_int_iff k n).1 h2⟩
theorem sh_two {rows : List (List Value)} {k : IntKind} {cs : List Value} (h : Sh rows (.rep 2 (.int k)) cs) : ∃ a b, cs = [.int k a, .int k b] ∧ (k.min ≤ a ∧ a ≤ k.max) ∧ k.min ≤ b ∧ b ≤ k.max := by
  obtain ⟨_, _, rfl, h1, ⟨_, _, rfl, h2, rfl⟩⟩ := h
  obtain ⟨a, rfl, ha⟩ := sh_int h1
  obtain ⟨b, rfl, hb⟩ := sh_int h2
  exact ⟨a, b, rfl, ha, hb⟩
theorem sh_coast {rows : List (List Value)} {cs : List Value} (h : Sh rows tCoast cs) : ∃ C : Coast, mkV tCoast cs = .agg ⟨C.cells⟩ ∧ C.Ok ∧ C.At (roHp rows) := by
  obtain ⟨_, _, rfl, h1, ⟨_, _, rfl, h2, ⟨_, _, rfl, h3, ⟨_, _, rfl, h4, ⟨_, _, rfl, h5, ⟨_, _, rfl, h6, ⟨_, _, rfl, h7, ⟨_, _, rfl, h8, ⟨_, _, rfl, h9, rfl⟩⟩⟩⟩⟩⟩⟩⟩⟩ := h
  obtain ⟨a1, rfl, b1⟩ := sh_int h1
  obtain ⟨a2, rfl, b2⟩ := sh_int h2
  obtain ⟨n3, z3, s3, rfl, r3, m3, b3⟩ := sh_slice_k (k := .i16) rfl h3
  obtain ⟨n4, z4, s4, rfl, r4, m4, b4⟩ := sh_slice_k (k := .u8) rfl h4
  obtain ⟨a5, rfl, b5⟩ := sh_int h5
  obtain ⟨a6, rfl, b6⟩ := sh_int h6
  obtain ⟨a7, c7, rfl, b7, d7⟩ := sh_two h7
  obtain ⟨a8, c8, rfl, b8, d8⟩ := sh_two h8
  obtain ⟨a9, c9, rfl, b9, d9⟩ := sh_two h9
  have l3 : z3.length = n3 := by have := r3.1; rw [kints_length] at this; simpa [Ty.size] using this
  have l4 : z4.length = n4 := by have := r4.1; rw [kints_length] at this; simpa [Ty.size] using this
  have hm : maxLen ≤ 9223372036854775807 := by decide
  refine ⟨⟨a1, a2, s3, s4, a5, a6, a7, c7, a8, c8, a9, c9, z3, z4⟩, rfl, ⟨b1, b2, b5, b6, b7, d7, b8, d8, b9, d9, fun i => gi_rng b3 (by decide) (by decide) i, fun i => gi_rng b4 (by decide) (by decide) i, by show z3.length ≤ _; omega, by show z4.length ≤ _; omega⟩, ⟨?_, ?_⟩⟩
  · show RdS (roHp rows) 1 z3.length (kints .i16 z3) s3
    rw [l3]; exact r3
  · show RdS (roHp rows) 1 z4.length (kints .u8 z4) s4
    rw [l4]; exact r4
end Go.Ab.Wave
