/- A grid among a law's arguments. -/
import Derived.Test.YtmppgcknmmmioaaGreatDoorZ17
import Derived.Test.YtmppgcknmmmioaaGreatDoorZ18
import Derived.Test.YtmppgcknmmmioaaGreatDoorZ16
import Derived.Test.YtmppgcknmmmioaaGreatDoorZ14
import Derived.Test.YtmppgcknmmmioaaGreatDoorZ13
import Derived.Test.YtmppgcknmmmioaaGreatDoorTie
import Derived.Lib.LaidU8
import Derived.Shelf.Vars
import Derived.Lay
import Derived.Handed
import Derived.MakeChecks
import Derived.Test.YtmppgcknmmmioaaGreatDoorZ15
set_option linter.unusedSimpArgs false
set_option linter.unusedVariables false
set_option linter.unusedSectionVars false
set_option maxRecDepth 100000
namespace Go.Ab.Grid
open Go Go.Ab
theorem seaE_wall {w h s : Int} {m n c : Nat} {zs cs : List Int} (hl : zs.length = m * 2) (hc : c < m) (h0 : seaE w h s m zs n cs = 0) (hE : gridE w h s m zs = 0) : seaE w h s m (wallZ zs c) n cs = 0 := by
  unfold seaE at h0 ⊢
  rw [if_pos (wallZ_E hl hc hE)]
  rw [if_pos hE] at h0
  exact h0
theorem leastW_snoc {o l : List Int} {d : Int} : leastW o (l ++ [d]) = min (leastW o l) (gi o d.toNat) := by simp [leastW]
section
variable {g : Nat} {rd : Option Nat} {T : List Value} {D : List Nat} {A : Hp} {Q : Ex → St → Prop} {V : Value → Hp → Prop}
variable {w h s : Int} {m n : Nat} {zs cs : List Int} {sl sv0 : Value}
theorem loop316a {c : Nat} {X3 : Nat} (hz : RdS A 1 n (ints cs) sv0) (hn : n < 1000000)
    (hQ : ∀ T', (c : Int) ∉ cs → tget T' 1 = sv0 → tget T' 2 = .int .i64 c → tget T' 3 = .pointer (some ⟨X3, 0, none⟩) → Q (.exit 0) ⟨T', D, A⟩) (hR : ∀ T', (c : Int) ∈ cs → tget T' 6 = .int .i64 0 → Q .ret ⟨T', D, A⟩) :
    ∀ (k i : Nat) {T : List Value}, i + k = n → (∀ j, j < i → gi cs j ≠ c) → tget T 1 = sv0 → tget T 2 = .int .i64 c → tget T 3 = .pointer (some ⟨X3, 0, none⟩) → tget T 15 = sv0 → tget T 16 = .int .i64 n → tget T 17 = .int .i64 i → W AP KL g rd (.loop body316a) ⟨T, D, A⟩ Q := by
  intro k
  have hcl : cs.length = n := by have := hz.1; simpa using this
  induction k with
  | zero =>
    intro i T hi hp t1 t2 t3 t15 t16 t17
    have : i = n := by omega
    subst this
    rw [W_loop]
    simp (disch := as_aux_lemma => first | omega | simp only [hDs] <;> omega | simp [isCell]) [hRs, takeMarks, resA, resAll, resOne, Value.cells, body316a, t16, t17]
    refine hQ _ (fun hin => ?_) (by simp [t1]) (by simp [t2]) (by simp [t3])
    obtain ⟨j, hj, he⟩ := List.getElem_of_mem hin
    exact hp j (by omega) (by rw [← he]; simp [gi, List.getD, hj])
  | succ k ih =>
    intro i T hi hp t1 t2 t3 t15 t16 t17
    have hin : i < n := by omega
    have e5 : wr .i64 ((i : Int) + 1) = ((i + 1 : Nat) : Int) := by rw [wrId (by omega) (by omega)]; simp
    obtain ⟨xb, xc, xr, hsv, hxb⟩ := hz.at hin
    have t15' := t15.trans hsv
    rw [W_loop]
    by_cases he : gi cs i = (c : Int)
    · simp (disch := as_aux_lemma => first | omega | simp only [hDs] <;> omega | simp [isCell]) [hRs, takeMarks, resA, resAll, resOne, Value.cells, body316a, t2, t15', t16, t17, show ((i : Int) < n) by omega, hin, idxSA_ok, hxb, ints_get (show i < cs.length by omega), he]
      refine hR _ ?_ (by simp)
      rw [← he]
      have : gi cs i = cs[i]'(by omega) := by simp [gi, List.getD, show i < cs.length by omega]
      rw [this]
      exact List.getElem_mem _
    · simp (disch := as_aux_lemma => first | omega | simp only [hDs] <;> omega | simp [isCell]) [hRs, takeMarks, resA, resAll, resOne, Value.cells, body316a, t2, t15', t16, t17, show ((i : Int) < n) by omega, hin, idxSA_ok, hxb, ints_get (show i < cs.length by omega), he, e5]
      refine ih (i + 1) (by omega) (fun j hj => ?_) ?_ ?_ ?_ ?_ ?_ ?_
      · by_cases hji : j = i
        · subst hji; exact he
        · exact hp j (by omega)
      all_goals simp [t1, t2, t3, t15, t16]
theorem loop316b {c X3 : Nat} {L lo up : List Int} {nv s10 : Value} (hL : ∀ x, x ∈ L → ∃ d : Nat, d < m ∧ x = (d : Int)) (hLl : L.length < 1000) (hm : m < 1000) (hnv : RdS A 1 L.length (ints L) nv) (hs10 : RdS A 2 m (ints (pairI lo up m)) s10)
    (hQ : ∀ T', tget T' 12 = .int .i64 (leastW lo L) → tget T' 2 = .int .i64 c → tget T' 3 = .pointer (some ⟨X3, 0, none⟩) → Q (.exit 2) ⟨T', D, A⟩) :
    ∀ (k i : Nat) {T : List Value}, i + k = L.length → tget T 2 = .int .i64 c → tget T 3 = .pointer (some ⟨X3, 0, none⟩) → tget T 10 = s10 → tget T 12 = .int .i64 (leastW lo (L.take i)) → tget T 54 = nv → tget T 55 = .int .i64 L.length → tget T 56 = .int .i64 i → W AP KL g rd (.loop body316b) ⟨T, D, A⟩ Q := by
  intro k
  have hpl : (pairI lo up m).length = m * 2 := pairI_len
  induction k with
  | zero =>
    intro i T hi t2 t3 t10 t12 t54 t55 t56
    have : i = L.length := by omega
    subst this
    rw [W_loop]
    simp (disch := as_aux_lemma => first | omega | simp only [hDs] <;> omega | simp [isCell]) [hRs, takeMarks, resA, resAll, resOne, Value.cells, body316b, t55, t56]
    refine hQ _ ?_ (by simp [t2]) (by simp [t3])
    rw [List.take_of_length_le (Nat.le_refl _)] at t12
    simp [t12]
  | succ k ih =>
    intro i T hi t2 t3 t10 t12 t54 t55 t56
    have hin : i < L.length := by omega
    have e5 : wr .i64 ((i : Int) + 1) = ((i + 1 : Nat) : Int) := by rw [wrId (by omega) (by omega)]; simp
    have hgi : gi L i = L[i] := by simp [gi, List.getD, hin]
    obtain ⟨d, hdm, hdi⟩ := hL (gi L i) (by rw [hgi]; exact List.getElem_mem _)
    have s1 : L.take (i + 1) = L.take i ++ [(d : Int)] := by
      rw [List.take_add_one, List.getElem?_eq_getElem hin, ← hgi, hdi]; rfl
    obtain ⟨xb, xc, xr, hsv, hxb⟩ := hnv.at hin
    obtain ⟨yb, yc, yr, hs1, hyb⟩ := hs10.at hdm
    have t54' := t54.trans hsv
    have t10' := t10.trans hs1
    rw [W_loop]
    simp (disch := as_aux_lemma => first | omega | simp only [hDs] <;> omega | simp [isCell]) [hRs, takeMarks, resA, resAll, resOne, Value.cells, body316b, t10', t12, t54', t55, t56, show ((i : Int) < L.length) by omega, hin, idxSA_ok, hxb, ints_get hin, hdi, hdm, hyb, ints_get (show d * 2 < (pairI lo up m).length by omega), (pairI_get (lo := lo) (up := up) hdm).1, e5]
    refine ih (i + 1) (by omega) ?_ ?_ ?_ ?_ ?_ ?_ ?_
    · simp [t2]
    · simp [t3]
    · simp [t10]
    · rw [s1, leastW_snoc]; simp
    all_goals simp [t54, t55]
theorem w316 {c : Nat} (hm60 : m ≤ 60) (hn : n < 1000000) (hw : 1 ≤ w ∧ w ≤ 5) (hh : 1 ≤ h ∧ h ≤ 5) (h0 : seaE w h s m zs n cs = 0) (hz0 : 0 ∈ seaN cs) (hpos : ∀ i, i < n → 0 ≤ gi cs i) (hlow : ∀ j, j < m → gi zs (j * 2) < 1200000) (hcm : c < m)
    (hz : RdS A 1 n (ints cs) sv0) (hsl : RdS A 2 m (ints zs) sl) (hg : g ≤ A.n)
    (hV : ∀ A' v, Ext' A A' → ((c : Int) ∈ cs → v = 0) → ((c : Int) ∉ cs → ∀ o, SFin (sPar false (some c) w h m zs (seaN cs)) o → v = max 0 (leastL o (nbrs w h c) - gi zs (c * 2))) → V (.int .i64 v) A') : WF AP KL g 316 [gridV w h s sl, sv0, .int .i64 c] A V := by
  obtain ⟨pl, cl, rfl⟩ := hsl.isSlice'
  have hcl : cs.length = n := by have := hz.1; simpa using this
  have hzl : zs.length = m * 2 := by have := hsl.1; simpa using this
  obtain ⟨hE, hn0, hsea, hcs⟩ := seaE_zero hcl h0
  have hmw := (gridE_parts hE).2.2.1
  have hrng := (gridE_parts hE).2.2.2
  rw [WF_body (show KL 316 = none from rfl) (show AP 316 = some F316 from rfl)]
  obtain ⟨B, hB⟩ : ∃ B, B = A.push (.cells [.int .i64 w, .int .i64 h, .int .i64 s, .slice pl m cl] false) := ⟨_, rfl⟩
  have eB : Ext' A B := by rw [hB]; exact Ext'.push _ _
  have nB : B.n = A.n + 1 := by rw [hB]; rfl
  have b3 : B.get A.n = some (.cells [.int .i64 w, .int .i64 h, .int .i64 s, .slice pl m cl] false) := by rw [hB]; exact get_push_new
  have hl := hsl.len
  have hlz := hz.len
  simp (disch := as_aux_lemma => first | omega | simp only [hDs] <;> omega | simp [isCell]) [hRs, takeMarks, resA, resAll, resOne, Value.cells, F316, gridV, ← hB, hlz]
  refine loop316a (c := c) (X3 := A.n) (eB.rdS hz) hn (fun T' hnin k1 k2 k3 => ?_) (fun T' hin k6 => ?_) n 0 (by omega) (fun j hj => by omega) ?_ ?_ ?_ ?_ ?_ ?_
  · obtain ⟨C, hC⟩ : ∃ C, C = B.push (.cells [.int .i64 w, .int .i64 h, .int .i64 s, .slice pl m cl] false) := ⟨_, rfl⟩
    have eC : Ext' B C := by rw [hC]; exact Ext'.push _ _
    have nC : C.n = B.n + 1 := by rw [hC]; rfl
    have c9 : C.get B.n = some (.cells [.int .i64 w, .int .i64 h, .int .i64 s, .slice pl m cl] false) := by rw [hC]; exact get_push_new
    obtain ⟨Y, cap, A2, h1, e2, hGY, hYB⟩ := copy_fresh (g := g) (bytes := 16) ((eB.trans eC).rdS hsl) (ints_isCell _) (by omega) (by decide) (by unfold room; omega)
    have n2 := e2.1
    have hYn := Hp.lt_of_get hGY
    have d9 := e2.get c9
    obtain ⟨A3, hA3⟩ : ∃ A3, A3 = A2.set B.n (some (.cells [.int .i64 w, .int .i64 h, .int .i64 s, .slice (some ⟨Y, 0, some 2⟩) m cap] false)) := ⟨_, rfl⟩
    have g3 : ∀ z, z ≠ B.n → A3.get z = A2.get z := fun z hz => by rw [hA3, get_set_ne (by omega) hz]
    have f9 : A3.get B.n = some (.cells [.int .i64 w, .int .i64 h, .int .i64 s, .slice (some ⟨Y, 0, some 2⟩) m cap] false) := by rw [hA3, get_set_same d9]
    have fY : A3.get Y = some (.cells (ints zs) false) := by rw [g3 Y (by omega)]; exact hGY
    have n3 : A3.n = A2.n := by rw [hA3]; simp
    obtain ⟨A4, hA4⟩ : ∃ A4, A4 = A3.set Y (some (.cells (ints (wallZ zs c)) false)) := ⟨_, rfl⟩
    have g4 : ∀ z, z ≠ Y → A4.get z = A3.get z := fun z hz => by rw [hA4, get_set_ne (by omega) hz]
    have n4 : A4.n = A2.n := by rw [hA4]; simp [n3]
    have k9 : A4.get B.n = some (.cells [.int .i64 w, .int .i64 h, .int .i64 s, .slice (some ⟨Y, 0, some 2⟩) m cap] false) := by rw [g4 _ (by omega)]; exact f9
    have kY : A4.get Y = some (.cells (ints (wallZ zs c)) false) := by rw [hA4, get_set_same fY]
    have e4 : Ext' B A4 := ⟨by omega, fun z hz => by rw [g4 z (by omega), g3 z (by omega), (eC.trans e2).2 z hz]⟩
    have st : storeB (some (.cells (ints zs) false)) g A3 Y (c * 2) [.int .i64 1200000, .int .i64 1200000] 2 = some (undef, A4) := by
      have := storeB_cells (A := A3) (g := g) (k := Y) (o := c * 2) (size := 2) (cs := ints zs) (vs := [.int .i64 1200000, .int .i64 1200000]) rfl (by omega) (by rw [ints_length]; omega) rfl
      rw [this, setRange_two (by omega), hA4]
      rfl
    have b3C := eC.get b3
    simp (disch := as_aux_lemma => first | omega | simp only [hDs] <;> omega | simp [isCell]) [hRs, takeMarks, resA, resAll, resOne, Value.cells, k1, k2, k3, b3, fillA, setRange, storeB_cells, set_push_eq, setRange_all, zeros, ← hC, slitA, h1, d9, ← hA3, f9, hcm, idxSA_ok, fY, st, k9, b3C]
    have r4 : RdS A4 2 m (ints (wallZ zs c)) (.slice (some ⟨Y, 0, some 2⟩) m cap) := ⟨by rw [ints_length, wallZ_len, hzl], .inr ⟨Y, cap, false, rfl, kY⟩⟩
    have eA := eB.trans e4
    refine w265 (s := s) (zs := wallZ zs c) hm60 hn (eA.rdS hz) r4 (by omega) fun A5 s10 e e5 v => ?_
    obtain ⟨he, v⟩ := v
    rw [seaE_wall hzl hcm h0 hE] at he
    subst he
    rw [if_pos rfl] at v
    obtain ⟨lo, up, f1, f2, r10, _⟩ := v
    have n5 := e5.1
    have k10 := r10.len
    have eA5 := eA.trans e5
    simp (disch := as_aux_lemma => first | omega | simp only [hDs] <;> omega | simp [isCell]) [hRs, takeMarks, resA, resAll, resOne, Value.cells, k2, k3, (e4.trans e5).get b3, hl, k10]
    refine w319 (w := w) (h := h) (s := s) (sl := .slice pl m cl) (m := m) ⟨hw.1, by omega⟩ ⟨by omega, by omega⟩ (by omega) hl (by omega) fun A6 nv e6 hacc => ?_
    have hnv : RdS A6 1 (nearI w c m).length (ints (nearI w c m)) nv := hacc.rd (by simp) (by decide)
    have hnl := hnv.len
    have hL6 : (nearI w c m).length ≤ m := nearI_le
    simp (disch := as_aux_lemma => first | omega | simp only [hDs] <;> omega | simp [isCell]) [hRs, takeMarks, resA, resAll, resOne, Value.cells, hnl]
    refine loop316b (c := c) (X3 := A.n) (m := m) (L := nearI w c m) (lo := lo) (up := up) (nv := nv) (s10 := s10) (fun x hx => by obtain ⟨d, h1, h2, _⟩ := nearI_mem.1 hx; exact ⟨d, h1, h2⟩) (by omega) (by omega) hnv (e6.rdS r10) (fun T2 q12 q2 q3 => ?_) (nearI w c m).length 0 (by omega) ?_ ?_ ?_ ?_ ?_ ?_ ?_
    · have e06 := eA5.trans e6
      obtain ⟨xb, xc, xr, hsx, hxb⟩ := (e06.rdS hsl).at hcm
      have b3' : A6.get A.n = some (.cells [.int .i64 w, .int .i64 h, .int .i64 s, .slice (some ⟨xb, 0, some 2⟩) m xc] false) := by rw [← hsx]; exact ((e4.trans e5).trans e6).get b3
      have hr := hrng c hcm
      have hlw : -1073741824 ≤ leastW lo (nearI w c m) ∧ leastW lo (nearI w c m) ≤ 1200000 := by
        have hle : ∀ x, x ∈ nearI w c m → -1073741824 ≤ gi lo x.toNat := fun x hx => by
          obtain ⟨d, h1, rfl, _⟩ := nearI_mem.1 hx
          exact (f1.le d h1).1
        have a := (le_fold (f := fun d => gi lo d.toNat) (t := -1073741824) (l := nearI w c m) (a := 1200000)).2 ⟨by omega, hle⟩
        have b := ((le_fold (f := fun d => gi lo d.toNat) (t := leastW lo (nearI w c m)) (l := nearI w c m) (a := 1200000)).1 (Int.le_refl _)).1
        exact ⟨a, b⟩
      have e7 : wr .i64 (leastW lo (nearI w c m) - gi zs (c * 2)) = leastW lo (nearI w c m) - gi zs (c * 2) := wrId (by omega) (by omega)
      simp (disch := as_aux_lemma => first | omega | simp only [hDs] <;> omega | simp [isCell]) [hRs, takeMarks, resA, resAll, resOne, Value.cells, q12, q2, q3, b3', hcm, idxSA_ok, hxb, ints_get (show c * 2 < zs.length by omega), e7]
      refine hV A6 _ e06 (fun hin => absurd hin hnin) (fun _ o ho => ?_)
      have hcs' : c ∉ seaN cs := fun hin => hnin (by
        have : (c : Int) ∈ castS (seaN cs) := List.mem_map.2 ⟨c, hin, rfl⟩
        rw [hcs] at this
        exact this)
      rw [dep_eq hw hh hm60 hzl hE hsea hz0 hcs' hcm hlow ho f1]
    all_goals simp [k2, k3, leastW]
  · simp (disch := as_aux_lemma => first | omega | simp only [hDs] <;> omega | simp [isCell]) [hRs, takeMarks, resA, resAll, resOne, Value.cells, k6]
    refine hV _ _ eB (fun _ => rfl) (fun hn => absurd hin hn)
  all_goals simp
end
end Go.Ab.Grid
set_option maxRecDepth 100000
namespace Go.Ab.Grid
open Go Go.Ab
def body284a : ACode := (.seq
 (.ops [
oB 161 .lss 160 159])
 (.seq
 (.cond (.t 161)
 .skip
 (.exit 0))
 (.seq
 (.block 1
 (.seq
 (.ops [
oI 162 158 160 1,
oL 163 162,
oM 27 163])
 (.seq
 (.ops [
oD 164 13 4,
oM 165 12,
oM 166 27,
oA 167 313 [.t 164, .t 165, .t 166] false,
oP 168 (.len (.t 167)),
oP 169 (.move (oK 0))])
 (.block 2
 (.loop
 (.seq
 (.ops [
oB 170 .lss 169 168])
 (.seq
 (.cond (.t 170)
 .skip
 (.exit 2))
 (.seq
 (.block 3
 (.seq
 (.ops [
oM 171 169,
oI 172 167 169 1,
oL 173 172,
oM 28 171,
oM 29 173])
 (.seq
 (.ops [
oM 174 23,
oM 175 28,
oI 176 174 175 1,
oL 177 176,
oM 178 177,
oN 179 178 true 29,
oQ 180 178 true (.not (.t 179)),
oP 181 (.pick (.t 178) (.t 180) (.k (.bool false))),
oM 182 181,
oN 183 182 false 24,
oN 184 182 false 28,
oQ 185 182 false (.idxS (.t 183) (.t 184) 1),
oQ 186 182 false (.load (.t 185) none),
oQ 187 182 false (.not (.t 186)),
oN 188 182 false 187,
oN 189 188 true 29,
oQ 190 182 false (.pick (.t 188) (.t 189) (.k (.bool false))),
oP 191 (.pick (.t 182) (.k (.bool true)) (.t 190)),
oM 192 191,
oN 193 192 false 29,
oN 194 192 false 27,
oN 195 192 false 17,
oN 196 192 false 28,
oQ 197 192 false (.idxS (.t 195) (.t 196) 2),
oQ 198 192 false (.fieldAddr (.t 197) 0),
oQ 199 192 false (.load (.t 198) none),
oQ 200 192 false (.bin .gtr (.t 194) (.t 199)),
oQ 201 192 false (.beq true (.t 193) (.t 200)),
oP 202 (.pick (.t 192) (.k (.bool true)) (.t 201))])
 (.cond (.t 202)
 (.seq
 (.ops [
oP 10 (.move (.k (.bool false)))])
 .ret)
 .skip))))
 (.ops [
oC 203 .add 169 1,
oM 169 203])))))))))
 (.ops [
oC 204 .add 160 1,
oM 160 204]))))
def ktb284 : List Nat := [11, 12, 13, 15, 17, 19, 21, 23, 24, 27, 158, 159, 160]
def kta284 : List Nat := [11, 12, 13, 15, 17, 19, 21, 23, 24, 158, 159]
section
variable {g : Nat} {rd : Option Nat} {T : List Value} {D : List Nat} {A : Hp} {Q : Ex → St → Prop} {V : Value → Hp → Prop}
theorem loop284b {m : Nat} {x : Int} {lb : List Int} {sure out may : List Bool} {s167 s23 s24 s17 : Value} {T0 : List Value} (hm : m < 1000) (r167 : RdS A 1 m (bools out) s167) (r23 : RdS A 1 m (bools sure) s23) (r24 : RdS A 1 m (bools may) s24) (r17 : RdS A 2 m (ints lb) s17)
    (hc : ∀ j, j < m → (gQ sure j = true → gQ out j = true) ∧ (gQ out j = true → gQ may j = true) ∧ gQ out j = decide (gi lb (j * 2) < x)) (t17 : tget T0 17 = s17) (t23 : tget T0 23 = s23) (t24 : tget T0 24 = s24) (t27 : tget T0 27 = .int .i64 x)
    (hQ : ∀ T', (∀ t, t ∈ ktb284 → tget T' t = tget T0 t) → Q (.exit 2) ⟨T', D, A⟩) :
    ∀ (k i : Nat) {T : List Value}, i + k = m → (∀ t, t ∈ ktb284 → tget T t = tget T0 t) → tget T 167 = s167 → tget T 168 = .int .i64 m → tget T 169 = .int .i64 i → W AP KL g rd (.loop body284b) ⟨T, D, A⟩ Q := by
  intro k
  have l1 : out.length = m := by have := r167.1; simpa using this
  have l2 : sure.length = m := by have := r23.1; simpa using this
  have l3 : may.length = m := by have := r24.1; simpa using this
  have l4 : lb.length = m * 2 := by have := r17.1; simpa using this
  have keep : ∀ {T T' : List Value}, (∀ t, t ∈ ktb284 → tget T t = tget T0 t) → (tget T' 11 = tget T 11 ∧ tget T' 12 = tget T 12 ∧ tget T' 13 = tget T 13 ∧ tget T' 15 = tget T 15 ∧ tget T' 17 = tget T 17 ∧ tget T' 19 = tget T 19 ∧ tget T' 21 = tget T 21 ∧ tget T' 23 = tget T 23 ∧ tget T' 24 = tget T 24 ∧ tget T' 27 = tget T 27 ∧ tget T' 158 = tget T 158 ∧ tget T' 159 = tget T 159 ∧ tget T' 160 = tget T 160) → ∀ t, t ∈ ktb284 → tget T' t = tget T0 t := by
    intro T T' h1 h2 t ht
    rw [← h1 t ht]
    simp [ktb284] at ht
    rcases ht with rfl | rfl | rfl | rfl | rfl | rfl | rfl | rfl | rfl | rfl | rfl | rfl | rfl <;> simp [h2]
  induction k with
  | zero =>
    intro i T hi hk t167 t168 t169
    have : i = m := by omega
    subst this
    rw [W_loop]
    simp (disch := as_aux_lemma => first | omega | simp only [hDs] <;> omega | simp [isCell]) [hRs, takeMarks, resA, resAll, resOne, Value.cells, body284b, t168, t169]
    exact hQ _ (keep hk (by simp))
  | succ k ih =>
    intro i T hi hk t167 t168 t169
    have him : i < m := by omega
    have e5 : wr .i64 ((i : Int) + 1) = ((i + 1 : Nat) : Int) := by rw [wrId (by omega) (by omega)]; simp
    obtain ⟨b1, c1, q1, h1, g1⟩ := r167.at him
    obtain ⟨b2, c2, q2, h2, g2⟩ := r23.at him
    obtain ⟨b3, c3, q3, h3, g3⟩ := r24.at him
    obtain ⟨b4, c4, q4, h4, g4⟩ := r17.at him
    have k167 := t167.trans h1
    have k23 := ((hk 23 (by simp [ktb284])).trans t23).trans h2
    have k24 := ((hk 24 (by simp [ktb284])).trans t24).trans h3
    have k17 := ((hk 17 (by simp [ktb284])).trans t17).trans h4
    have k27 := (hk 27 (by simp [ktb284])).trans t27
    obtain ⟨f1, f2, f3⟩ := hc i him
    have x1 := gQ_get (l := out) (i := i) (by omega)
    have x2 := gQ_get (l := sure) (i := i) (by omega)
    have x3 := gQ_get (l := may) (i := i) (by omega)
    rw [W_loop]
    cases ho : gQ out i
    · have hs : gQ sure i = false := by
        cases hs : gQ sure i
        · rfl
        · rw [f1 hs] at ho; cases ho
      rw [ho] at f3
      have hx : ¬ gi lb (i * 2) < x := by simpa using f3.symm
      simp (disch := as_aux_lemma => first | omega | simp only [hDs] <;> omega | simp [isCell]) [hRs, takeMarks, resA, resAll, resOne, Value.cells, body284b, k167, k23, k24, k17, k27, t168, t169, show ((i : Int) < m) by omega, him, idxSA_ok, g1, g2, g3, g4, x1, x2, x3, ho, hs, ints_get (show i * 2 < lb.length by omega), hx, e5, beqA]
      cases hy : gQ may i
      · simp (disch := as_aux_lemma => first | omega | simp only [hDs] <;> omega | simp [isCell]) [hRs, takeMarks, resA, resAll, resOne, Value.cells, body284b, k167, k23, k24, k17, k27, t168, t169, show ((i : Int) < m) by omega, him, idxSA_ok, g1, g2, g3, g4, x1, x2, x3, ho, hs, hy, ints_get (show i * 2 < lb.length by omega), hx, e5, beqA]
        refine ih (i + 1) (by omega) (keep hk (by simp)) ?_ ?_ ?_
        all_goals simp [t167, t168]
      · simp (disch := as_aux_lemma => first | omega | simp only [hDs] <;> omega | simp [isCell]) [hRs, takeMarks, resA, resAll, resOne, Value.cells, body284b, k167, k23, k24, k17, k27, t168, t169, show ((i : Int) < m) by omega, him, idxSA_ok, g1, g2, g3, g4, x1, x2, x3, ho, hs, hy, ints_get (show i * 2 < lb.length by omega), hx, e5, beqA]
        refine ih (i + 1) (by omega) (keep hk (by simp)) ?_ ?_ ?_
        all_goals simp [t167, t168]
    · have hy := f2 ho
      rw [ho] at f3
      have hx : gi lb (i * 2) < x := by simpa using f3.symm
      cases hs : gQ sure i
      · simp (disch := as_aux_lemma => first | omega | simp only [hDs] <;> omega | simp [isCell]) [hRs, takeMarks, resA, resAll, resOne, Value.cells, body284b, k167, k23, k24, k17, k27, t168, t169, show ((i : Int) < m) by omega, him, idxSA_ok, g1, g2, g3, g4, x1, x2, x3, ho, hs, hy, ints_get (show i * 2 < lb.length by omega), hx, e5, beqA]
        refine ih (i + 1) (by omega) (keep hk (by simp)) ?_ ?_ ?_
        all_goals simp [t167, t168]
      · simp (disch := as_aux_lemma => first | omega | simp only [hDs] <;> omega | simp [isCell]) [hRs, takeMarks, resA, resAll, resOne, Value.cells, body284b, k167, k23, k24, k17, k27, t168, t169, show ((i : Int) < m) by omega, him, idxSA_ok, g1, g2, g3, g4, x1, x2, x3, ho, hs, hy, ints_get (show i * 2 < lb.length by omega), hx, e5, beqA]
        refine ih (i + 1) (by omega) (keep hk (by simp)) ?_ ?_ ?_
        all_goals simp [t167, t168]
theorem loop284a {A0 : Hp} {w h s : Int} {m n X13 X158 : Nat} {Z cs vs lo2 up2 : List Int} {sure may : List Bool} {s13 sv0 s17 s23 s24 : Value} {T0 : List Value} (hm60 : m ≤ 60) (hn : n < 1000000) (hw : 1 ≤ w ∧ w ≤ 5) (hh : 1 ≤ h ∧ h ≤ 5) (hE : gridE w h s m Z = 0) (hsea : ∀ c, c ∈ seaN cs → c < m) (hpos : ∀ i, i < n → 0 ≤ gi cs i)
    (ho : SFin (sPar false none w h m Z (seaN cs)) lo2) (h13 : A0.get X13 = some (boxG w h s s13)) (r13 : RdS A0 2 m (ints Z) s13) (hz : RdS A0 1 n (ints cs) sv0) (r17 : RdS A0 2 m (ints (pairI lo2 up2 m)) s17) (r23 : RdS A0 1 m (bools sure) s23) (r24 : RdS A0 1 m (bools may) s24) (h158 : A0.get X158 = some (.cells (ints vs) false)) (hvl : vs.length = 2) (hg : g ≤ A0.n)
    (hv : ∀ i, i < 2 → (-1000000000 ≤ gi vs i ∧ gi vs i ≤ 1000000000) ∧ ∀ j, j < m → (gQ sure j = true → gi lo2 j < gi vs i) ∧ (gi lo2 j < gi vs i → gQ may j = true))
    (t12 : tget T0 12 = sv0) (t13 : tget T0 13 = .pointer (some ⟨X13, 0, none⟩)) (t17 : tget T0 17 = s17) (t23 : tget T0 23 = s23) (t24 : tget T0 24 = s24) (t158 : tget T0 158 = .slice (some ⟨X158, 0, some 1⟩) 2 2) (t159 : tget T0 159 = .int .i64 2)
    (hQ : ∀ T' A', Ext' A0 A' → (∀ t, t ∈ kta284 → tget T' t = tget T0 t) → Q (.exit 0) ⟨T', D, A'⟩) :
    ∀ (k i : Nat) {T : List Value} {A : Hp}, i + k = 2 → Ext' A0 A → (∀ t, t ∈ kta284 → tget T t = tget T0 t) → tget T 160 = .int .i64 i → W AP KL g rd (.loop body284a) ⟨T, D, A⟩ Q := by
  intro k
  induction k with
  | zero =>
    intro i T A hi e hk t160
    have : i = 2 := by omega
    subst this
    have k159 := (hk 159 (by simp [kta284])).trans t159
    rw [W_loop]
    simp (disch := as_aux_lemma => first | omega | simp only [hDs] <;> omega | simp [isCell]) [hRs, takeMarks, resA, resAll, resOne, Value.cells, body284a, k159, t160]
    refine hQ _ _ e fun t ht => ?_
    rw [← hk t ht]
    simp [kta284] at ht
    rcases ht with rfl | rfl | rfl | rfl | rfl | rfl | rfl | rfl | rfl | rfl | rfl <;> simp
  | succ k ih =>
    intro i T A hi e hk t160
    have hi2 : i < 2 := by omega
    have e5 : wr .i64 ((i : Int) + 1) = ((i + 1 : Nat) : Int) := by rw [wrId (by omega) (by omega)]; simp
    have k12 := (hk 12 (by simp [kta284])).trans t12
    have k13 := (hk 13 (by simp [kta284])).trans t13
    have k17 := (hk 17 (by simp [kta284])).trans t17
    have k23 := (hk 23 (by simp [kta284])).trans t23
    have k24 := (hk 24 (by simp [kta284])).trans t24
    have k158 := (hk 158 (by simp [kta284])).trans t158
    have k159 := (hk 159 (by simp [kta284])).trans t159
    have nA := e.1
    obtain ⟨hvb, hvj⟩ := hv i hi2
    rw [W_loop]
    simp (disch := as_aux_lemma => first | omega | simp only [hDs] <;> omega | simp [isCell]) [hRs, takeMarks, resA, resAll, resOne, Value.cells, body284a, k12, k13, k158, k159, t160, show ((i : Int) < 2) by omega, hi2, idxSA_ok, e.get h158, ints_get (show i < vs.length by omega), e.get h13, boxG]
    refine w313 (w := w) (h := h) (s := s) (zs := Z) (cs := cs) hm60 hn hw hh hE hsea hpos hvb (e.rdS hz) (e.rdS r13) (by omega) fun A1 out sv e1 r1 h1 _ => ?_
    have k167 := r1.len
    have e01 := e.trans e1
    simp (disch := as_aux_lemma => first | omega | simp only [hDs] <;> omega | simp [isCell]) [hRs, takeMarks, resA, resAll, resOne, Value.cells, k167]
    refine loop284b (m := m) (x := gi vs i) (lb := pairI lo2 up2 m) (sure := sure) (out := out) (may := may) (T0 := tset T 27 (.int .i64 (gi vs i))) (by omega) r1 (e01.rdS r23) (e01.rdS r24) (e01.rdS r17) (fun j hj => ?_) ?_ ?_ ?_ ?_ (fun T' hk' => ?_) m 0 (Nat.zero_add _) (fun t ht => ?_) ?_ ?_ ?_
    · obtain ⟨a, b⟩ := hvj j hj
      rw [h1 lo2 ho j hj, (pairI_get hj).1]
      refine ⟨fun hs => by simpa using a hs, fun hs => b (by simpa using hs), rfl⟩
    · simp [k17]
    · simp [k23]
    · simp [k24]
    · simp
    · have j160 : tget T' 160 = .int .i64 i := (hk' 160 (by simp [ktb284])).trans (by simp [t160])
      simp (disch := as_aux_lemma => first | omega | simp only [hDs] <;> omega | simp [isCell]) [hRs, takeMarks, resA, resAll, resOne, Value.cells, j160, e5]
      refine ih (i + 1) (by omega) e01 (fun t ht => ?_) ?_
      · rw [← hk t ht]
        simp [kta284] at ht
        have j11 := hk' 11 (by simp [ktb284])
        have j12 := hk' 12 (by simp [ktb284])
        have j13 := hk' 13 (by simp [ktb284])
        have j15 := hk' 15 (by simp [ktb284])
        have j17 := hk' 17 (by simp [ktb284])
        have j19 := hk' 19 (by simp [ktb284])
        have j21 := hk' 21 (by simp [ktb284])
        have j23 := hk' 23 (by simp [ktb284])
        have j24 := hk' 24 (by simp [ktb284])
        have j158 := hk' 158 (by simp [ktb284])
        have j159 := hk' 159 (by simp [ktb284])
        rcases ht with rfl | rfl | rfl | rfl | rfl | rfl | rfl | rfl | rfl | rfl | rfl
        · simp [j11]
        · simp [j12]
        · simp [j13]
        · simp [j15]
        · simp [j17]
        · simp [j19]
        · simp [j21]
        · simp [j23]
        · simp [j24]
        · simp [j158]
        · simp [j159]
      · simp
    · simp [ktb284] at ht
      rcases ht with rfl | rfl | rfl | rfl | rfl | rfl | rfl | rfl | rfl | rfl | rfl | rfl | rfl <;> simp
    all_goals simp
theorem start284a {A0 : Hp} {w h s : Int} {m n X13 X158 : Nat} {Z cs vs lo2 up2 : List Int} {sure may : List Bool} {s13 sv0 s17 s23 s24 : Value} {T : List Value} (hm60 : m ≤ 60) (hn : n < 1000000) (hw : 1 ≤ w ∧ w ≤ 5) (hh : 1 ≤ h ∧ h ≤ 5) (hE : gridE w h s m Z = 0) (hsea : ∀ c, c ∈ seaN cs → c < m) (hpos : ∀ i, i < n → 0 ≤ gi cs i)
    (ho : SFin (sPar false none w h m Z (seaN cs)) lo2) (h13 : A0.get X13 = some (boxG w h s s13)) (r13 : RdS A0 2 m (ints Z) s13) (hz : RdS A0 1 n (ints cs) sv0) (r17 : RdS A0 2 m (ints (pairI lo2 up2 m)) s17) (r23 : RdS A0 1 m (bools sure) s23) (r24 : RdS A0 1 m (bools may) s24) (h158 : A0.get X158 = some (.cells (ints vs) false)) (hvl : vs.length = 2) (hg : g ≤ A0.n)
    (hv : ∀ i, i < 2 → (-1000000000 ≤ gi vs i ∧ gi vs i ≤ 1000000000) ∧ ∀ j, j < m → (gQ sure j = true → gi lo2 j < gi vs i) ∧ (gi lo2 j < gi vs i → gQ may j = true))
    (t12 : tget T 12 = sv0) (t13 : tget T 13 = .pointer (some ⟨X13, 0, none⟩)) (t17 : tget T 17 = s17) (t23 : tget T 23 = s23) (t24 : tget T 24 = s24) (t158 : tget T 158 = .slice (some ⟨X158, 0, some 1⟩) 2 2) (t159 : tget T 159 = .int .i64 2)
    (t160 : tget T 160 = .int .i64 0) (hQ : ∀ T' A', Ext' A0 A' → (∀ t, t ∈ kta284 → tget T' t = tget T t) → Q (.exit 0) ⟨T', D, A'⟩) : W AP KL g rd (.loop body284a) ⟨T, D, A0⟩ Q :=
  loop284a hm60 hn hw hh hE hsea hpos ho h13 r13 hz r17 r23 r24 h158 hvl hg hv t12 t13 t17 t23 t24 t158 t159 hQ 2 0 rfl ⟨Nat.le_refl _, fun _ _ => rfl⟩ (fun _ _ => rfl) t160
end
end Go.Ab.Grid
set_option maxRecDepth 100000
namespace Go.Ab.Grid
open Go Go.Ab
def body284c : ACode := (.seq
 (.ops [
oB 208 .lss 207 206])
 (.seq
 (.cond (.t 208)
 .skip
 (.exit 4))
 (.seq
 (.block 5
 (.seq
 (.ops [
oM 209 207,
oM 30 209])
 (.seq
 (.seq
 (.ops [
oM 210 17,
oM 211 30,
oI 212 210 211 2,
oD 213 212 2,
oM 214 15,
oM 215 30,
oI 216 214 215 2,
oD 217 216 2,
oA 218 314 [.t 213, .t 217] false,
oP 219 (.not (.t 218)),
oM 220 219,
oN 221 220 false 17,
oN 222 220 false 30,
oQ 223 220 false (.idxS (.t 221) (.t 222) 2),
oQ 224 220 false (.fieldAddr (.t 223) 0),
oQ 225 220 false (.load (.t 224) none),
oN 226 220 false 17,
oN 227 220 false 30,
oQ 228 220 false (.idxS (.t 226) (.t 227) 2),
oQ 229 220 false (.fieldAddr (.t 228) 1),
oQ 230 220 false (.load (.t 229) none),
oQ 231 220 false (.bin .neq (.t 225) (.t 230)),
oP 232 (.pick (.t 220) (.k (.bool true)) (.t 231)),
oM 233 232,
oN 234 233 false 21,
oN 235 233 false 30,
oQ 236 233 false (.idxS (.t 234) (.t 235) 2),
oQ 237 233 false (.load (.t 236) (some 2)),
oN 238 233 false 19,
oN 239 233 false 30,
oQ 240 233 false (.idxS (.t 238) (.t 239) 2),
oQ 241 233 false (.load (.t 240) (some 2)),
oQ 242 233 false (.call (.k (.func (.func 314) ⟨[]⟩ ⟨[]⟩)) [.t 237, .t 241] false),
oQ 243 233 false (.not (.t 242)),
oP 244 (.pick (.t 233) (.k (.bool true)) (.t 243)),
oM 245 244,
oN 246 245 false 21,
oN 247 245 false 30,
oQ 248 245 false (.idxS (.t 246) (.t 247) 2),
oQ 249 245 false (.fieldAddr (.t 248) 0),
oQ 250 245 false (.load (.t 249) none),
oN 251 245 false 21,
oN 252 245 false 30,
oQ 253 245 false (.idxS (.t 251) (.t 252) 2),
oQ 254 245 false (.fieldAddr (.t 253) 1),
oQ 255 245 false (.load (.t 254) none),
oQ 256 245 false (.bin .neq (.t 250) (.t 255)),
oP 257 (.pick (.t 245) (.k (.bool true)) (.t 256))])
 (.cond (.t 257)
 (.seq
 (.ops [
oP 10 (.move (.k (.bool false)))])
 .ret)
 .skip))
 (.seq
 (.ops [
oD 258 11 4,
oD 259 11 4,
oD 260 11 4,
oD 261 11 4,
oP 31 (.alloc [.int .i64 0, .int .i64 0, .int .i64 0, .slice none 0 0]),
oP 32 (.alloc [.int .i64 0, .int .i64 0, .int .i64 0, .slice none 0 0]),
oP 33 (.alloc [.int .i64 0, .int .i64 0, .int .i64 0, .slice none 0 0]),
oP 34 (.alloc [.int .i64 0, .int .i64 0, .int .i64 0, .slice none 0 0]),
⟨none, none, [(.t 31, 4, .t 11, 4), (.t 31, 4, .t 11, 4), (.t 31, 4, .t 11, 4)], .store (.t 31) (.t 258) 4⟩,
⟨none, none, [(.t 32, 4, .t 11, 4), (.t 32, 4, .t 11, 4)], .store (.t 32) (.t 259) 4⟩,
⟨none, none, [(.t 33, 4, .t 11, 4)], .store (.t 33) (.t 260) 4⟩,
oT 34 261 4])
 (.seq
 (.ops [
oF 262 31 3,
⟨none, none, [], .store (.t 262) (.k (.slice none 0 0)) 1⟩,
oF 263 32 3,
⟨none, none, [], .store (.t 263) (.k (.slice none 0 0)) 1⟩,
oF 264 33 3,
⟨none, none, [], .store (.t 264) (.k (.slice none 0 0)) 1⟩,
oF 265 34 3,
⟨none, none, [], .store (.t 265) (.k (.slice none 0 0)) 1⟩])
 (.seq
 (.seq
 (.ops [
oF 266 11 3,
oL 267 266,
oP 268 (.len (.t 267)),
oP 269 (.move (oK 0))])
 (.block 6
 (.loop
 (.seq
 (.ops [
oB 270 .lss 269 268])
 (.seq
 (.cond (.t 270)
 .skip
 (.exit 6))
 (.seq
 (.block 7
 (.seq
 (.ops [
oM 271 269,
oI 272 267 269 2,
oD 273 272 2,
oP 36 (.alloc [.int .i64 0, .int .i64 0]),
oM 35 271,
oT 36 273 2])
 (.seq
 (.ops [
oF 274 36 0,
oL 275 274,
oF 276 36 0,
oL 277 276,
oP 278 (.build [.int .i64 0, .int .i64 0] [(0, 1, .t 275), (1, 1, .t 277)]),
oF 279 36 1,
oL 280 279,
oF 281 36 1,
oL 282 281,
oP 283 (.build [.int .i64 0, .int .i64 0] [(0, 1, .t 280), (1, 1, .t 282)]),
oP 37 (.alloc [.int .i64 0, .int .i64 0]),
oP 38 (.alloc [.int .i64 0, .int .i64 0]),
⟨none, none, [(.t 37, 2, .t 279, 1), (.t 37, 2, .t 281, 1)], .store (.t 37) (.t 278) 2⟩,
oT 38 283 2])
 (.seq
 (.ops [
oF 284 31 3,
oL 285 284,
oD 286 37 2,
oP 287 (.slit 1 2 [.int .i64 0, .int .i64 0] [(0, .t 286)]),
oP 288 (.append (.t 285) (.t 287) 2 16),
oF 289 32 3,
⟨some 290, none, [(.t 285, 0, .t 289, 1)], .load (.t 289) none⟩,
⟨some 291, none, [(.t 285, 0, .t 38, 2)], .load (.t 38) (some 2)⟩,
oP 292 (.slit 1 2 [.int .i64 0, .int .i64 0] [(0, .t 291)]),
oP 293 (.append (.t 290) (.t 292) 2 16),
oF 294 31 3,
oT 294 288 1,
oF 295 32 3,
oT 295 293 1])
 (.seq
 (.seq
 (.ops [
oM 296 35,
oM 297 30,
oB 298 .eql 296 297])
 (.cond (.t 298)
 (.ops [
oD 299 38 2,
oD 300 37 2,
oT 37 299 2,
oT 38 300 2])
 .skip))
 (.ops [
oF 301 34 3,
oL 302 301,
oD 303 37 2,
oP 304 (.slit 1 2 [.int .i64 0, .int .i64 0] [(0, .t 303)]),
oP 305 (.append (.t 302) (.t 304) 2 16),
oF 306 33 3,
⟨some 307, none, [(.t 302, 0, .t 306, 1)], .load (.t 306) none⟩,
⟨some 308, none, [(.t 302, 0, .t 38, 2)], .load (.t 38) (some 2)⟩,
oP 309 (.slit 1 2 [.int .i64 0, .int .i64 0] [(0, .t 308)]),
oP 310 (.append (.t 307) (.t 309) 2 16),
oF 311 34 3,
oT 311 305 1,
oF 312 33 3,
oT 312 310 1]))))))
 (.ops [
oC 313 .add 269 1,
oM 269 313])))))))
 (.seq
 (.ops [
oD 314 31 4,
oM 315 12,
oM 316 30,
oM 317 15,
oM 318 30,
oI 319 317 318 2,
oF 320 319 0,
oL 321 320,
oA 322 315 [.t 314, .t 315, .t 316, .t 321] false,
oP 323 (.not (.t 322)),
oM 324 323,
oQ 325 324 false (.load (.t 32) (some 4)),
oN 326 324 false 12,
oN 327 324 false 30,
oN 328 324 false 15,
oN 329 324 false 30,
oQ 330 324 false (.idxS (.t 328) (.t 329) 2),
oQ 331 324 false (.fieldAddr (.t 330) 1),
oQ 332 324 false (.load (.t 331) none),
oQ 333 324 false (.call (.k (.func (.func 315) ⟨[]⟩ ⟨[]⟩)) [.t 325, .t 326, .t 327, .t 332] false),
oQ 334 324 false (.not (.t 333)),
oP 335 (.pick (.t 324) (.k (.bool true)) (.t 334)),
oM 336 335,
oQ 337 336 false (.load (.t 33) (some 4)),
oN 338 336 false 12,
oN 339 336 false 30,
oQ 340 336 false (.call (.k (.func (.func 316) ⟨[]⟩ ⟨[]⟩)) [.t 337, .t 338, .t 339] true),
oN 341 336 false 19,
oN 342 336 false 30,
oQ 343 336 false (.idxS (.t 341) (.t 342) 2),
oQ 344 336 false (.fieldAddr (.t 343) 1),
oQ 345 336 false (.load (.t 344) none),
oQ 346 336 false (.bin .neq (.t 340) (.t 345)),
oP 347 (.pick (.t 336) (.k (.bool true)) (.t 346)),
oM 348 347,
oQ 349 348 false (.load (.t 34) (some 4)),
oN 350 348 false 12,
oN 351 348 false 30,
oQ 352 348 false (.call (.k (.func (.func 316) ⟨[]⟩ ⟨[]⟩)) [.t 349, .t 350, .t 351] true),
oN 353 348 false 19,
oN 354 348 false 30,
oQ 355 348 false (.idxS (.t 353) (.t 354) 2),
oQ 356 348 false (.fieldAddr (.t 355) 0),
oQ 357 348 false (.load (.t 356) none),
oQ 358 348 false (.bin .neq (.t 352) (.t 357)),
oP 359 (.pick (.t 348) (.k (.bool true)) (.t 358))])
 (.cond (.t 359)
 (.seq
 (.ops [
oP 10 (.move (.k (.bool false)))])
 .ret)
 .skip))))))))
 (.ops [
oC 360 .add 207 1,
oM 207 360]))))
def Wj (a b : List Int) (j : Nat) : Prop := gi b (j * 2) ≤ gi a (j * 2) ∧ gi a (j * 2 + 1) ≤ gi b (j * 2 + 1) ∧ gi a (j * 2) ≤ gi a (j * 2 + 1)
structure TruI (L : Land) (n : Nat) (cs lo1 up1 la lb ps qs : List Int) : Prop where
  ok : L.Ok
  n6 : n < 1000000
  h0 : seaE L.w L.h 100 L.n L.G.zs n cs = 0
  cl : cs.length = n
  z0 : 0 ∈ seaN cs
  pos : ∀ i, i < n → 0 ≤ gi cs i
  s1 : SFin (sPar false none L.w L.h L.n L.G.zs (seaN cs)) lo1
  s2 : SFin (sPar true none L.w L.h L.n L.G.zs (seaN cs)) up1
  fla : ∀ j, j < L.n → gi la (j * 2) = gi lo1 j ∧ gi la (j * 2 + 1) = gi up1 j
  b : ∀ j, j < L.n → Wj lb la j ∧ gi lb (j * 2) = gi lb (j * 2 + 1)
  q : ∀ j, j < L.n → Wj qs ps j ∧ gi qs (j * 2) = gi qs (j * 2 + 1)
  p : ∀ j, j < L.n → PondC L.w L.h L.n L.G.zs cs j (gi ps (j * 2)) (gi ps (j * 2 + 1))
theorem Land.Ok.zr {L : Land} (h : L.Ok) : ∀ j, j < L.n → -32768 ≤ gi L.G.zs (j * 2) ∧ gi L.G.zs (j * 2) ≤ gi L.G.zs (j * 2 + 1) ∧ gi L.G.zs (j * 2 + 1) ≤ 33022 := fun j hj => by
  obtain ⟨a, b⟩ := Land.zs_get (L := L) hj
  have r := h.rng j
  show -32768 ≤ gi (L.zs L.n) (j * 2) ∧ gi (L.zs L.n) (j * 2) ≤ gi (L.zs L.n) (j * 2 + 1) ∧ gi (L.zs L.n) (j * 2 + 1) ≤ 33022
  rw [a, b]
  exact r
theorem nilN : ∀ z, blkOf (.slice none 0 0) = some z → blkOf (.slice none 0 0) ≠ some z := fun z h => by cases h
theorem ptE {L : Land} {f : Nat → Int} (hO : L.Ok) (hf : ∀ j, j < L.n → -32768 ≤ f j ∧ f j ≤ 33022) : gridE L.w L.h 100 L.n (ptZ f L.n) = 0 :=
  Land.E_of hO fun j hj => by
    have := hf j hj
    rw [(ptZ_get hj).1, (ptZ_get hj).2]
    omega
section
variable {g : Nat} {rd : Option Nat} {T : List Value} {D : List Nat} {A : Hp} {Q : Ex → St → Prop} {V : Value → Hp → Prop}
theorem loop284c {A0 : Hp} {L : Land} {n X11 : Nat} {cs lo1 up1 la lb ps qs : List Int} {s11 sv0 s15 s17 s19 s21 : Value} (hI : TruI L n cs lo1 up1 la lb ps qs) (hg : g ≤ A0.n)
    (h11 : A0.get X11 = some (boxG L.w L.h 100 s11)) (r11 : RdS A0 2 L.n (ints L.G.zs) s11) (hz : RdS A0 1 n (ints cs) sv0) (r15 : RdS A0 2 L.n (ints la) s15) (r17 : RdS A0 2 L.n (ints lb) s17) (r19 : RdS A0 2 L.n (ints ps) s19) (r21 : RdS A0 2 L.n (ints qs) s21)
    (hQ : ∀ T' A', Ext' A0 A' → Q (.exit 4) ⟨T', D, A'⟩) :
    ∀ (k i : Nat) {T : List Value} {A : Hp}, i + k = L.n → Ext' A0 A → tget T 11 = .pointer (some ⟨X11, 0, none⟩) → tget T 12 = sv0 → tget T 15 = s15 → tget T 17 = s17 → tget T 19 = s19 → tget T 21 = s21 → tget T 206 = .int .i64 L.n → tget T 207 = .int .i64 i → W AP KL g rd (.loop body284c) ⟨T, D, A⟩ Q := by
  intro k
  have hn := hI.ok.n
  have hw := hI.ok.w
  have hh := hI.ok.h
  have hzr := hI.ok.zr
  have hE : gridE L.w L.h 100 L.n L.G.zs = 0 := hI.ok.E
  have hsea := (seaE_zero hI.cl hI.h0).2.2.1
  have hXn := Hp.lt_of_get h11
  have l11 : L.G.zs.length = L.n * 2 := Land.zs_len
  have l15 : la.length = L.n * 2 := by have := r15.1; simpa using this
  have l17 : lb.length = L.n * 2 := by have := r17.1; simpa using this
  have l19 : ps.length = L.n * 2 := by have := r19.1; simpa using this
  have l21 : qs.length = L.n * 2 := by have := r21.1; simpa using this
  have n60 : L.n ≤ 60 := by omega
  obtain ⟨p11, c11, rfl⟩ := r11.isSlice'
  induction k with
  | zero =>
    intro i T A hi e t11 t12 t15 t17 t19 t21 t206 t207
    rw [W_loop]
    simp (disch := as_aux_lemma => first | omega | simp only [hDs] <;> omega | simp [isCell]) [hRs, takeMarks, resA, resAll, resOne, Value.cells, body284c, t206, t207, show ¬ ((i : Int) < L.n) by omega]
    exact hQ _ _ e
  | succ k ih =>
    intro i T A hi e t11 t12 t15 t17 t19 t21 t206 t207
    have hi' : i < L.n := by omega
    have e5 : wr .i64 ((i : Int) + 1) = ((i + 1 : Nat) : Int) := by rw [wrId (by omega) (by omega)]; simp
    obtain ⟨b15, c15, q15, h15, g15⟩ := r15.at hi'
    obtain ⟨b17, c17, q17, h17, g17⟩ := r17.at hi'
    obtain ⟨b19, c19, q19, h19, g19⟩ := r19.at hi'
    obtain ⟨b21, c21, q21, h21, g21⟩ := r21.at hi'
    have u15 := t15.trans h15
    have u17 := t17.trans h17
    have u19 := t19.trans h19
    have u21 := t21.trans h21
    obtain ⟨hb1, hb2⟩ := hI.b i hi'
    obtain ⟨hq1, hq2⟩ := hI.q i hi'
    obtain ⟨ha1, ha2⟩ := hI.fla i hi'
    rw [W_loop]
    simp (disch := as_aux_lemma => first | omega | simp only [hDs] <;> omega | simp [isCell]) [hRs, takeMarks, resA, resAll, resOne, Value.cells, body284c, u15, u17, t206, t207, show ((i : Int) < L.n) by omega, hi', idxSA_ok, e.get g15, e.get g17, ints_two, l15, l17]
    refine w314 hb1 fun A1 e1 => ?_
    have f1 := e.trans e1
    simp (disch := as_aux_lemma => first | omega | simp only [hDs] <;> omega | simp [isCell]) [hRs, takeMarks, resA, resAll, resOne, Value.cells, u17, u19, u21, hi', idxSA_ok, f1.get g17, ints_get (show i * 2 < lb.length by omega), ints_get (show i * 2 + 1 < lb.length by omega), hb2, f1.get g19, f1.get g21, ints_two, l19, l21]
    refine w314 hq1 fun B e2 => ?_
    have f2 := f1.trans e2
    have nB := f2.1
    obtain ⟨C, hC⟩ : ∃ C, C = (((B.push (boxG L.w L.h 100 (.slice none 0 0))).push (boxG L.w L.h 100 (.slice none 0 0))).push (boxG L.w L.h 100 (.slice none 0 0))).push (boxG L.w L.h 100 (.slice none 0 0)) := ⟨_, rfl⟩
    have eC : Ext' B C := by rw [hC]; exact (((Ext'.push _ _).trans (Ext'.push _ _)).trans (Ext'.push _ _)).trans (Ext'.push _ _)
    have nC : C.n = B.n + 4 := by rw [hC]; rfl
    have x4 : C.get (B.n + 3) = some (boxG L.w L.h 100 (.slice none 0 0)) := by rw [hC, get_push_eq (by simp)]
    have x3 : C.get (B.n + 2) = some (boxG L.w L.h 100 (.slice none 0 0)) := by rw [hC, get_push_old (by simp), get_push_eq (by simp)]
    have x2 : C.get (B.n + 1) = some (boxG L.w L.h 100 (.slice none 0 0)) := by rw [hC, get_push_old (by simp), get_push_old (by simp), get_push_eq (by simp)]
    have x1 : C.get B.n = some (boxG L.w L.h 100 (.slice none 0 0)) := by rw [hC, get_push_old (by simp; omega), get_push_old (by simp; omega), get_push_old (by simp), get_push_eq (by simp)]
    have f3 := f2.trans eC
    unfold boxG at hC
    simp (disch := as_aux_lemma => first | omega | simp only [hDs] <;> omega | simp [isCell]) [hRs, takeMarks, resA, resAll, resOne, Value.cells, u17, u21, hi', idxSA_ok, (f1.trans e2).get g21, ints_get (show i * 2 < qs.length by omega), ints_get (show i * 2 + 1 < qs.length by omega), hq2, t11, f2.get h11, boxG, apartA_eq, apV_ptr, show ¬ B.n = X11 by omega, show ¬ B.n + 1 = X11 by omega, show ¬ B.n + 1 + 1 = X11 by omega, fillA, setRange, storeB_cells, set_push_eq, setRange_all, ← hC, f3.get h11, r11.len]
    refine loop284d (A0 := C) (N := B.n) (c := i) (m := L.n) (zs := L.G.zs) (w := L.w) (h := L.h) (s := 100) (sg := .slice p11 L.n c11) (T0 := tset (tset (tset (tset (tset T 30 (.int .i64 i)) 31 (.pointer (some ⟨B.n, 0, none⟩))) 32 (.pointer (some ⟨B.n + 1, 0, none⟩))) 33 (.pointer (some ⟨B.n + 2, 0, none⟩))) 34 (.pointer (some ⟨B.n + 3, 0, none⟩)))
      (by omega) (f3.rdS r11) (fun z hz => by have := r11.blk_lt hz; omega) (by omega) (by simp) (by simp) (by simp) (by simp) (by simp) (fun T' A' s1 s2 s3 s4 hD hk => ?_) L.n 0 (.slice none 0 0) (.slice none 0 0) (.slice none 0 0) (.slice none 0 0) (Nat.zero_add _)
      ⟨fun _ _ => rfl, by omega, x1, x2, x3, x4, AccS.nil, AccS.nil, AccS.nil, AccS.nil, nilN, nilN, nilN, nilN, nilN, nilN⟩ (fun t ht => ?_) ?_ ?_ ?_
    · have nD := hD.n
      have eD : Ext' B A' := ⟨by omega, fun z hz => by rw [hD.b z hz, eC.2 z hz]⟩
      have f4 := f2.trans eD
      have r1 : RdS A' 2 L.n (ints (ptZ (fLo L.G.zs) L.n)) s1 := hD.a1.rd (by rw [ints_length, ptZ_len]) (by decide)
      have r2 : RdS A' 2 L.n (ints (ptZ (fHi L.G.zs) L.n)) s2 := hD.a2.rd (by rw [ints_length, ptZ_len]) (by decide)
      have r3 : RdS A' 2 L.n (ints (ptZ (fDeep L.G.zs i) L.n)) s3 := hD.a3.rd (by rw [ints_length, ptZ_len]) (by decide)
      have r4 : RdS A' 2 L.n (ints (ptZ (fShal L.G.zs i) L.n)) s4 := hD.a4.rd (by rw [ints_length, ptZ_len]) (by decide)
      have j11 : tget T' 11 = .pointer (some ⟨X11, 0, none⟩) := (hk 11 (by simp [kt284])).trans (by simp [t11])
      have j12 : tget T' 12 = sv0 := (hk 12 (by simp [kt284])).trans (by simp [t12])
      have j15 : tget T' 15 = s15 := (hk 15 (by simp [kt284])).trans (by simp [t15])
      have j17 : tget T' 17 = s17 := (hk 17 (by simp [kt284])).trans (by simp [t17])
      have j19 : tget T' 19 = s19 := (hk 19 (by simp [kt284])).trans (by simp [t19])
      have j21 : tget T' 21 = s21 := (hk 21 (by simp [kt284])).trans (by simp [t21])
      have j30 : tget T' 30 = .int .i64 i := (hk 30 (by simp [kt284])).trans (by simp)
      have j31 : tget T' 31 = .pointer (some ⟨B.n, 0, none⟩) := (hk 31 (by simp [kt284])).trans (by simp)
      have j32 : tget T' 32 = .pointer (some ⟨B.n + 1, 0, none⟩) := (hk 32 (by simp [kt284])).trans (by simp)
      have j33 : tget T' 33 = .pointer (some ⟨B.n + 2, 0, none⟩) := (hk 33 (by simp [kt284])).trans (by simp)
      have j34 : tget T' 34 = .pointer (some ⟨B.n + 3, 0, none⟩) := (hk 34 (by simp [kt284])).trans (by simp)
      have j206 : tget T' 206 = .int .i64 L.n := (hk 206 (by simp [kt284])).trans (by simp [t206])
      have j207 : tget T' 207 = .int .i64 i := (hk 207 (by simp [kt284])).trans (by simp [t207])
      have v15 := j15.trans h15
      have v19 := j19.trans h19
      have E1 := ptE (f := fLo L.G.zs) hI.ok fun j hj => by have := hzr j hj; unfold fLo; omega
      have E2 := ptE (f := fHi L.G.zs) hI.ok fun j hj => by have := hzr j hj; unfold fHi; omega
      have E3 := ptE (f := fDeep L.G.zs i) hI.ok fun j hj => by have := hzr j hj; unfold fDeep; split <;> omega
      have E4 := ptE (f := fShal L.G.zs i) hI.ok fun j hj => by have := hzr j hj; unfold fShal; split <;> omega
      have b1 := sill_rng (up := false) hw hh hE n60 hsea hI.z0 hI.s1 hi'
      have b2 := sill_rng (up := true) hw hh hE n60 hsea hI.z0 hI.s2 hi'
      have S1 : SFin (sPar false none L.w L.h L.n (ptZ (fLo L.G.zs) L.n) (seaN cs)) lo1 := sp_congr (up := false) (up' := false) hE n60 hsea (fun c hc _ => by rw [show upN false = 0 from rfl, Nat.add_zero, (ptZ_get hc).1]; rfl) hI.s1
      have S2 : SFin (sPar false none L.w L.h L.n (ptZ (fHi L.G.zs) L.n) (seaN cs)) up1 := sp_congr (up := true) (up' := false) hE n60 hsea (fun c hc _ => by rw [show upN false = 0 from rfl, Nat.add_zero, (ptZ_get hc).1]; rfl) hI.s2
      simp (disch := as_aux_lemma => first | omega | simp only [hDs] <;> omega | simp [isCell]) [hRs, takeMarks, resA, resAll, resOne, Value.cells, j12, j30, j31, v15, boxG, hD.x1, idxSA_ok, hi', f4.get g15, ints_get (show i * 2 < la.length by omega)]
      refine w315 (s := 100) (o := lo1) n60 hI.n6 hw hh E1 hsea hI.pos (by omega) (f4.rdS hz) r1 (by omega) hi' S1 ha1.symm fun A3 e3 => ?_
      have n3 := e3.1
      have f5 := f4.trans e3
      simp (disch := as_aux_lemma => first | omega | simp only [hDs] <;> omega | simp [isCell]) [hRs, takeMarks, resA, resAll, resOne, Value.cells, j12, j30, j32, v15, boxG, e3.get hD.x2, idxSA_ok, hi', f5.get g15, ints_get (show i * 2 + 1 < la.length by omega)]
      refine w315 (s := 100) (o := up1) n60 hI.n6 hw hh E2 hsea hI.pos (by omega) (f5.rdS hz) (e3.rdS r2) (by omega) hi' S2 ha2.symm fun A4 e4 => ?_
      have n4 := e4.1
      have f6 := f5.trans e4
      have e34 := e3.trans e4
      simp (disch := as_aux_lemma => first | omega | simp only [hDs] <;> omega | simp [isCell]) [hRs, takeMarks, resA, resAll, resOne, Value.cells, j12, j30, j33, boxG, e34.get hD.x3]
      refine w316 (s := 100) n60 hI.n6 hw hh (seaE_of hE E3 hI.h0) hI.z0 hI.pos (fun j hj => by rw [(ptZ_get hj).1]; have := hzr j hj; unfold fDeep; split <;> omega) hi' (f6.rdS hz) (e34.rdS r3) (Nat.le_refl _) fun A5 v e5' hv0 hv1 => ?_
      have hv : v = gi ps (i * 2 + 1) := by
        have hp := hI.p i hi'
        unfold PondC at hp
        by_cases hin : (i : Int) ∈ cs
        · rw [if_pos hin] at hp
          rw [hv0 hin, hp.2]
        · rw [if_neg hin] at hp
          obtain ⟨ol, oh, p1, p2, p3, p4⟩ := hp
          rw [hv1 hin oh (sp_congr (up := true) (up' := false) hE n60 hsea (fun c hc hne => by
            rw [show upN false = 0 from rfl, Nat.add_zero, (ptZ_get hc).1, fDeep, if_neg (fun h => hne (by rw [h]))]; rfl) p2), p4, (ptZ_get hi').1, fDeep, if_pos rfl]
      subst hv
      have f7 := f6.trans e5'
      simp (disch := as_aux_lemma => first | omega | simp only [hDs] <;> omega | simp [isCell]) [hRs, takeMarks, resA, resAll, resOne, Value.cells, v19, j30, idxSA_ok, hi', f7.get g19, ints_get (show i * 2 + 1 < ps.length by omega), j12, j34, boxG, (e34.trans e5').get hD.x4]
      refine w316 (s := 100) n60 hI.n6 hw hh (seaE_of hE E4 hI.h0) hI.z0 hI.pos (fun j hj => by rw [(ptZ_get hj).1]; have := hzr j hj; unfold fShal; split <;> omega) hi' (f7.rdS hz) ((e34.trans e5').rdS r4) (Nat.le_refl _) fun A6 v e6 hv0 hv1 => ?_
      have hv : v = gi ps (i * 2) := by
        have hp := hI.p i hi'
        unfold PondC at hp
        by_cases hin : (i : Int) ∈ cs
        · rw [if_pos hin] at hp
          rw [hv0 hin, hp.1]
        · rw [if_neg hin] at hp
          obtain ⟨ol, oh, p1, p2, p3, p4⟩ := hp
          rw [hv1 hin ol (sp_congr (up := false) (up' := false) hE n60 hsea (fun c hc hne => by
            rw [show upN false = 0 from rfl, Nat.add_zero, (ptZ_get hc).1, fShal, if_neg (fun h => hne (by rw [h]))]) p1), p3, (ptZ_get hi').1, fShal, if_pos rfl]
      subst hv
      have f8 := f7.trans e6
      simp (disch := as_aux_lemma => first | omega | simp only [hDs] <;> omega | simp [isCell]) [hRs, takeMarks, resA, resAll, resOne, Value.cells, v19, j30, idxSA_ok, hi', f8.get g19, ints_get (show i * 2 < ps.length by omega), j207, e5]
      refine ih (i + 1) (by omega) f8 ?_ ?_ ?_ ?_ ?_ ?_ ?_ ?_
      all_goals simp [j11, j12, j15, j17, j19, j21, j206]
    · simp [kt284] at ht
      rcases ht with rfl | rfl | rfl | rfl | rfl | rfl | rfl | rfl | rfl | rfl | rfl | rfl | rfl <;> simp
    all_goals simp
end
end Go.Ab.Grid
set_option maxRecDepth 100000
namespace Go.Ab.Grid
open Go Go.Ab
def pa284 : ACode := (.ops [
oP 5 (.box (.t 0)),
oP 10 (.move (.k (.bool false)))])
def pb284 : ACode := (.seq
 (.ops [
oM 39 1,
oP 40 (.len (.t 39)),
oC 41 .gtr 40 10])
 (.cond (.t 41)
 (.seq
 (.ops [
oA 42 289 [] false,
oM 10 42])
 .ret)
 .skip))
def pc284 : ACode := (.ops [
oD 43 5 4,
oA 44 310 [.t 43] false,
oP 11 (.alloc [.int .i64 0, .int .i64 0, .int .i64 0, .slice none 0 0]),
oT 11 44 4])
def pd284 : ACode := (.ops [
oD 45 11 4,
oM 46 1,
oA 47 311 [.t 45, .t 46] true,
oD 48 11 4,
oM 49 2,
oA 50 312 [.t 48, .t 49] true,
oP 13 (.alloc [.int .i64 0, .int .i64 0, .int .i64 0, .slice none 0 0]),
oM 12 47,
oT 13 50 4])
def pe284 : ACode := (.ops [
oM 51 3,
oP 52 (.toInt .i64 (.t 51)),
oC 53 .rem 52 15000,
oM 54 3,
oP 55 (.toInt .i64 (.t 54)),
oC 56 .rem 55 15000,
oM 57 4,
oP 58 (.toInt .i64 (.t 57)),
oB 59 .add 56 58,
oP 60 (.build [.int .i64 0, .int .i64 0] [(0, 1, .t 53), (1, 1, .t 59)]),
oP 14 (.alloc [.int .i64 0, .int .i64 0]),
oT 14 60 2])
def pf284 : ACode := (.ops [
oD 62 11 4,
oM 63 12,
oA 64 265 [.t 62, .t 63] false,
oM 61 64,
oX 65 61 0,
oX 66 61 1,
oM 15 65,
oM 16 66])
def pg284 : ACode := (.ops [
oD 68 13 4,
oM 69 12,
oA 70 265 [.t 68, .t 69] false,
oM 67 70,
oX 71 67 0,
oX 72 67 1,
oM 17 71,
oM 18 72])
def ph284 : ACode := (.ops [
oD 74 11 4,
oM 75 12,
oA 76 297 [.t 74, .t 75] false,
oM 73 76,
oX 77 73 0,
oX 78 73 1,
oM 19 77,
oM 20 78])
def pi284 : ACode := (.ops [
oD 80 13 4,
oM 81 12,
oA 82 297 [.t 80, .t 81] false,
oM 79 82,
oX 83 79 0,
oX 84 79 1,
oM 21 83,
oM 22 84])
def pj284 : ACode := (.ops [
oD 86 11 4,
oM 87 12,
oD 88 14 2,
oA 89 253 [.t 86, .t 87, .t 88] false,
oM 85 89,
oX 90 85 0,
oX 91 85 1,
oX 92 85 2,
oM 23 90,
oM 24 91,
oM 25 92])
def pk284 : ACode := (.seq
 (.ops [
oM 93 16,
oC 94 .neq 93 0,
oM 95 94,
oN 96 95 false 18,
oQ 97 95 false (.bin .neq (.t 96) (oK 0)),
oP 98 (.pick (.t 95) (.k (.bool true)) (.t 97)),
oM 99 98,
oN 100 99 false 20,
oQ 101 99 false (.bin .neq (.t 100) (oK 0)),
oP 102 (.pick (.t 99) (.k (.bool true)) (.t 101)),
oM 103 102,
oN 104 103 false 22,
oQ 105 103 false (.bin .neq (.t 104) (oK 0)),
oP 106 (.pick (.t 103) (.k (.bool true)) (.t 105)),
oM 107 106,
oN 108 107 false 25,
oQ 109 107 false (.bin .neq (.t 108) (oK 0)),
oP 110 (.pick (.t 107) (.k (.bool true)) (.t 109)),
oM 111 110,
oN 112 111 false 15,
oQ 113 111 false (.len (.t 112)),
oQ 114 111 false (.fieldAddr (.t 11) 3),
oQ 115 111 false (.load (.t 114) none),
oQ 116 111 false (.len (.t 115)),
oQ 117 111 false (.bin .neq (.t 113) (.t 116)),
oP 118 (.pick (.t 111) (.k (.bool true)) (.t 117)),
oM 119 118,
oN 120 119 false 17,
oQ 121 119 false (.len (.t 120)),
oN 122 119 false 15,
oQ 123 119 false (.len (.t 122)),
oQ 124 119 false (.bin .neq (.t 121) (.t 123)),
oP 125 (.pick (.t 119) (.k (.bool true)) (.t 124)),
oM 126 125,
oN 127 126 false 19,
oQ 128 126 false (.len (.t 127)),
oN 129 126 false 15,
oQ 130 126 false (.len (.t 129)),
oQ 131 126 false (.bin .neq (.t 128) (.t 130)),
oP 132 (.pick (.t 126) (.k (.bool true)) (.t 131)),
oM 133 132,
oN 134 133 false 21,
oQ 135 133 false (.len (.t 134)),
oN 136 133 false 15,
oQ 137 133 false (.len (.t 136)),
oQ 138 133 false (.bin .neq (.t 135) (.t 137)),
oP 139 (.pick (.t 133) (.k (.bool true)) (.t 138)),
oM 140 139,
oN 141 140 false 23,
oQ 142 140 false (.len (.t 141)),
oN 143 140 false 15,
oQ 144 140 false (.len (.t 143)),
oQ 145 140 false (.bin .neq (.t 142) (.t 144)),
oP 146 (.pick (.t 140) (.k (.bool true)) (.t 145)),
oM 147 146,
oN 148 147 false 24,
oQ 149 147 false (.len (.t 148)),
oN 150 147 false 15,
oQ 151 147 false (.len (.t 150)),
oQ 152 147 false (.bin .neq (.t 149) (.t 151)),
oP 153 (.pick (.t 147) (.k (.bool true)) (.t 152))])
 (.cond (.t 153)
 (.seq
 (.ops [
oP 10 (.move (.k (.bool false)))])
 .ret)
 .skip))
def pl284 : ACode := (.seq
 (.seq
 (.ops [
oF 154 14 0,
oL 155 154,
oF 156 14 1,
oL 157 156,
oP 158 (.slit 2 1 [.int .i64 0] [(0, .t 155), (1, .t 157)]),
oP 159 (.len (.t 158)),
oP 160 (.move (oK 0))])
 (.block 0
 (.loop
 (.seq
 (.ops [
oB 161 .lss 160 159])
 (.seq
 (.cond (.t 161)
 .skip
 (.exit 0))
 (.seq
 (.block 1
 (.seq
 (.ops [
oI 162 158 160 1,
oL 163 162,
oM 27 163])
 (.seq
 (.ops [
oD 164 13 4,
oM 165 12,
oM 166 27,
oA 167 313 [.t 164, .t 165, .t 166] false,
oP 168 (.len (.t 167)),
oP 169 (.move (oK 0))])
 (.block 2
 (.loop
 (.seq
 (.ops [
oB 170 .lss 169 168])
 (.seq
 (.cond (.t 170)
 .skip
 (.exit 2))
 (.seq
 (.block 3
 (.seq
 (.ops [
oM 171 169,
oI 172 167 169 1,
oL 173 172,
oM 28 171,
oM 29 173])
 (.seq
 (.ops [
oM 174 23,
oM 175 28,
oI 176 174 175 1,
oL 177 176,
oM 178 177,
oN 179 178 true 29,
oQ 180 178 true (.not (.t 179)),
oP 181 (.pick (.t 178) (.t 180) (.k (.bool false))),
oM 182 181,
oN 183 182 false 24,
oN 184 182 false 28,
oQ 185 182 false (.idxS (.t 183) (.t 184) 1),
oQ 186 182 false (.load (.t 185) none),
oQ 187 182 false (.not (.t 186)),
oN 188 182 false 187,
oN 189 188 true 29,
oQ 190 182 false (.pick (.t 188) (.t 189) (.k (.bool false))),
oP 191 (.pick (.t 182) (.k (.bool true)) (.t 190)),
oM 192 191,
oN 193 192 false 29,
oN 194 192 false 27,
oN 195 192 false 17,
oN 196 192 false 28,
oQ 197 192 false (.idxS (.t 195) (.t 196) 2),
oQ 198 192 false (.fieldAddr (.t 197) 0),
oQ 199 192 false (.load (.t 198) none),
oQ 200 192 false (.bin .gtr (.t 194) (.t 199)),
oQ 201 192 false (.beq true (.t 193) (.t 200)),
oP 202 (.pick (.t 192) (.k (.bool true)) (.t 201))])
 (.cond (.t 202)
 (.seq
 (.ops [
oP 10 (.move (.k (.bool false)))])
 .ret)
 .skip))))
 (.ops [
oC 203 .add 169 1,
oM 169 203])))))))))
 (.ops [
oC 204 .add 160 1,
oM 160 204])))))))
 (.seq
 (.seq
 (.ops [
oM 205 15,
oP 206 (.len (.t 205)),
oP 207 (.move (oK 0))])
 (.block 4
 (.loop
 (.seq
 (.ops [
oB 208 .lss 207 206])
 (.seq
 (.cond (.t 208)
 .skip
 (.exit 4))
 (.seq
 (.block 5
 (.seq
 (.ops [
oM 209 207,
oM 30 209])
 (.seq
 (.seq
 (.ops [
oM 210 17,
oM 211 30,
oI 212 210 211 2,
oD 213 212 2,
oM 214 15,
oM 215 30,
oI 216 214 215 2,
oD 217 216 2,
oA 218 314 [.t 213, .t 217] false,
oP 219 (.not (.t 218)),
oM 220 219,
oN 221 220 false 17,
oN 222 220 false 30,
oQ 223 220 false (.idxS (.t 221) (.t 222) 2),
oQ 224 220 false (.fieldAddr (.t 223) 0),
oQ 225 220 false (.load (.t 224) none),
oN 226 220 false 17,
oN 227 220 false 30,
oQ 228 220 false (.idxS (.t 226) (.t 227) 2),
oQ 229 220 false (.fieldAddr (.t 228) 1),
oQ 230 220 false (.load (.t 229) none),
oQ 231 220 false (.bin .neq (.t 225) (.t 230)),
oP 232 (.pick (.t 220) (.k (.bool true)) (.t 231)),
oM 233 232,
oN 234 233 false 21,
oN 235 233 false 30,
oQ 236 233 false (.idxS (.t 234) (.t 235) 2),
oQ 237 233 false (.load (.t 236) (some 2)),
oN 238 233 false 19,
oN 239 233 false 30,
oQ 240 233 false (.idxS (.t 238) (.t 239) 2),
oQ 241 233 false (.load (.t 240) (some 2)),
oQ 242 233 false (.call (.k (.func (.func 314) ⟨[]⟩ ⟨[]⟩)) [.t 237, .t 241] false),
oQ 243 233 false (.not (.t 242)),
oP 244 (.pick (.t 233) (.k (.bool true)) (.t 243)),
oM 245 244,
oN 246 245 false 21,
oN 247 245 false 30,
oQ 248 245 false (.idxS (.t 246) (.t 247) 2),
oQ 249 245 false (.fieldAddr (.t 248) 0),
oQ 250 245 false (.load (.t 249) none),
oN 251 245 false 21,
oN 252 245 false 30,
oQ 253 245 false (.idxS (.t 251) (.t 252) 2),
oQ 254 245 false (.fieldAddr (.t 253) 1),
oQ 255 245 false (.load (.t 254) none),
oQ 256 245 false (.bin .neq (.t 250) (.t 255)),
oP 257 (.pick (.t 245) (.k (.bool true)) (.t 256))])
 (.cond (.t 257)
 (.seq
 (.ops [
oP 10 (.move (.k (.bool false)))])
 .ret)
 .skip))
 (.seq
 (.ops [
oD 258 11 4,
oD 259 11 4,
oD 260 11 4,
oD 261 11 4,
oP 31 (.alloc [.int .i64 0, .int .i64 0, .int .i64 0, .slice none 0 0]),
oP 32 (.alloc [.int .i64 0, .int .i64 0, .int .i64 0, .slice none 0 0]),
oP 33 (.alloc [.int .i64 0, .int .i64 0, .int .i64 0, .slice none 0 0]),
oP 34 (.alloc [.int .i64 0, .int .i64 0, .int .i64 0, .slice none 0 0]),
⟨none, none, [(.t 31, 4, .t 11, 4), (.t 31, 4, .t 11, 4), (.t 31, 4, .t 11, 4)], .store (.t 31) (.t 258) 4⟩,
⟨none, none, [(.t 32, 4, .t 11, 4), (.t 32, 4, .t 11, 4)], .store (.t 32) (.t 259) 4⟩,
⟨none, none, [(.t 33, 4, .t 11, 4)], .store (.t 33) (.t 260) 4⟩,
oT 34 261 4])
 (.seq
 (.ops [
oF 262 31 3,
⟨none, none, [], .store (.t 262) (.k (.slice none 0 0)) 1⟩,
oF 263 32 3,
⟨none, none, [], .store (.t 263) (.k (.slice none 0 0)) 1⟩,
oF 264 33 3,
⟨none, none, [], .store (.t 264) (.k (.slice none 0 0)) 1⟩,
oF 265 34 3,
⟨none, none, [], .store (.t 265) (.k (.slice none 0 0)) 1⟩])
 (.seq
 (.seq
 (.ops [
oF 266 11 3,
oL 267 266,
oP 268 (.len (.t 267)),
oP 269 (.move (oK 0))])
 (.block 6
 (.loop
 (.seq
 (.ops [
oB 270 .lss 269 268])
 (.seq
 (.cond (.t 270)
 .skip
 (.exit 6))
 (.seq
 (.block 7
 (.seq
 (.ops [
oM 271 269,
oI 272 267 269 2,
oD 273 272 2,
oP 36 (.alloc [.int .i64 0, .int .i64 0]),
oM 35 271,
oT 36 273 2])
 (.seq
 (.ops [
oF 274 36 0,
oL 275 274,
oF 276 36 0,
oL 277 276,
oP 278 (.build [.int .i64 0, .int .i64 0] [(0, 1, .t 275), (1, 1, .t 277)]),
oF 279 36 1,
oL 280 279,
oF 281 36 1,
oL 282 281,
oP 283 (.build [.int .i64 0, .int .i64 0] [(0, 1, .t 280), (1, 1, .t 282)]),
oP 37 (.alloc [.int .i64 0, .int .i64 0]),
oP 38 (.alloc [.int .i64 0, .int .i64 0]),
⟨none, none, [(.t 37, 2, .t 279, 1), (.t 37, 2, .t 281, 1)], .store (.t 37) (.t 278) 2⟩,
oT 38 283 2])
 (.seq
 (.ops [
oF 284 31 3,
oL 285 284,
oD 286 37 2,
oP 287 (.slit 1 2 [.int .i64 0, .int .i64 0] [(0, .t 286)]),
oP 288 (.append (.t 285) (.t 287) 2 16),
oF 289 32 3,
⟨some 290, none, [(.t 285, 0, .t 289, 1)], .load (.t 289) none⟩,
⟨some 291, none, [(.t 285, 0, .t 38, 2)], .load (.t 38) (some 2)⟩,
oP 292 (.slit 1 2 [.int .i64 0, .int .i64 0] [(0, .t 291)]),
oP 293 (.append (.t 290) (.t 292) 2 16),
oF 294 31 3,
oT 294 288 1,
oF 295 32 3,
oT 295 293 1])
 (.seq
 (.seq
 (.ops [
oM 296 35,
oM 297 30,
oB 298 .eql 296 297])
 (.cond (.t 298)
 (.ops [
oD 299 38 2,
oD 300 37 2,
oT 37 299 2,
oT 38 300 2])
 .skip))
 (.ops [
oF 301 34 3,
oL 302 301,
oD 303 37 2,
oP 304 (.slit 1 2 [.int .i64 0, .int .i64 0] [(0, .t 303)]),
oP 305 (.append (.t 302) (.t 304) 2 16),
oF 306 33 3,
⟨some 307, none, [(.t 302, 0, .t 306, 1)], .load (.t 306) none⟩,
⟨some 308, none, [(.t 302, 0, .t 38, 2)], .load (.t 38) (some 2)⟩,
oP 309 (.slit 1 2 [.int .i64 0, .int .i64 0] [(0, .t 308)]),
oP 310 (.append (.t 307) (.t 309) 2 16),
oF 311 34 3,
oT 311 305 1,
oF 312 33 3,
oT 312 310 1]))))))
 (.ops [
oC 313 .add 269 1,
oM 269 313])))))))
 (.seq
 (.ops [
oD 314 31 4,
oM 315 12,
oM 316 30,
oM 317 15,
oM 318 30,
oI 319 317 318 2,
oF 320 319 0,
oL 321 320,
oA 322 315 [.t 314, .t 315, .t 316, .t 321] false,
oP 323 (.not (.t 322)),
oM 324 323,
oQ 325 324 false (.load (.t 32) (some 4)),
oN 326 324 false 12,
oN 327 324 false 30,
oN 328 324 false 15,
oN 329 324 false 30,
oQ 330 324 false (.idxS (.t 328) (.t 329) 2),
oQ 331 324 false (.fieldAddr (.t 330) 1),
oQ 332 324 false (.load (.t 331) none),
oQ 333 324 false (.call (.k (.func (.func 315) ⟨[]⟩ ⟨[]⟩)) [.t 325, .t 326, .t 327, .t 332] false),
oQ 334 324 false (.not (.t 333)),
oP 335 (.pick (.t 324) (.k (.bool true)) (.t 334)),
oM 336 335,
oQ 337 336 false (.load (.t 33) (some 4)),
oN 338 336 false 12,
oN 339 336 false 30,
oQ 340 336 false (.call (.k (.func (.func 316) ⟨[]⟩ ⟨[]⟩)) [.t 337, .t 338, .t 339] true),
oN 341 336 false 19,
oN 342 336 false 30,
oQ 343 336 false (.idxS (.t 341) (.t 342) 2),
oQ 344 336 false (.fieldAddr (.t 343) 1),
oQ 345 336 false (.load (.t 344) none),
oQ 346 336 false (.bin .neq (.t 340) (.t 345)),
oP 347 (.pick (.t 336) (.k (.bool true)) (.t 346)),
oM 348 347,
oQ 349 348 false (.load (.t 34) (some 4)),
oN 350 348 false 12,
oN 351 348 false 30,
oQ 352 348 false (.call (.k (.func (.func 316) ⟨[]⟩ ⟨[]⟩)) [.t 349, .t 350, .t 351] true),
oN 353 348 false 19,
oN 354 348 false 30,
oQ 355 348 false (.idxS (.t 353) (.t 354) 2),
oQ 356 348 false (.fieldAddr (.t 355) 0),
oQ 357 348 false (.load (.t 356) none),
oQ 358 348 false (.bin .neq (.t 352) (.t 357)),
oP 359 (.pick (.t 348) (.k (.bool true)) (.t 358))])
 (.cond (.t 359)
 (.seq
 (.ops [
oP 10 (.move (.k (.bool false)))])
 .ret)
 .skip))))))))
 (.ops [
oC 360 .add 207 1,
oM 207 360])))))))
 (.seq
 (.ops [
oA 361 289 [] false,
oM 10 361])
 .ret)))
theorem AP284 : AP 284 = some (.fn 362 [.tmp 10] (.seq pa284 (.seq pb284 (.seq pc284 (.seq pd284 (.seq pe284 (.seq pf284 (.seq pg284 (.seq ph284 (.seq pi284 (.seq pj284 (.seq pk284 pl284))))))))))) ) := rfl
section
variable {g : Nat} {rd : Option Nat} {T : List Value} {D : List Nat} {A : Hp} {Q : Ex → St → Prop} {V : Value → Hp → Prop}
theorem law284 {L : Land} {nw ns : Nat} {wh ss : List Int} {sl sm sw sv : Value} {lev mo : Int} (hL : L.Ok) (hat : L.At A sl sm) (hs : RdS A 1 ns (kints .u8 ss) sv) (hsr : ∀ i, 0 ≤ gi ss i ∧ gi ss i ≤ 255) (hsw : RdS A 1 nw (kints .u8 wh) sw) (hwr : ∀ i, 0 ≤ gi wh i ∧ gi wh i ≤ 255)
    (hlev : -32768 ≤ lev ∧ lev ≤ 32767) (hmo : 0 ≤ mo ∧ mo ≤ 255) (hg : g ≤ A.n) (hV : ∀ A', V (.bool true) A') : WF AP KL g 284 [L.V sl sm, sv, sw, .int .i16 lev, .int .u8 mo] A V := by
  rw [WF_body (show KL 284 = none from rfl) AP284]
  have hls := hs.len
  have hn := hL.n
  have hw := hL.w
  have hh := hL.h
  have hzr := hL.zr
  obtain ⟨B, hB⟩ : ∃ B, B = A.push (.cells [.int .u8 L.wide, .int .u8 L.high, sl, sm] false) := ⟨_, rfl⟩
  have eB : Ext' A B := by rw [hB]; exact Ext'.push _ _
  have b5 : B.get A.n = some (.cells [.int .u8 L.wide, .int .u8 L.high, sl, sm] false) := by rw [hB]; exact get_push_new
  have nB := eB.1
  by_cases h10 : (10 : Int) < ns
  · simp (disch := as_aux_lemma => first | omega | simp only [hDs] <;> omega | simp [isCell]) [hRs, takeMarks, resA, resAll, resOne, Value.cells, pa284, pb284, Land.V, hls, h10]
    exact hV _
  · have l0 : -15000 < lev.tmod 15000 ∧ lev.tmod 15000 < 15000 := by
      rcases Int.le_total 0 lev with h | h
      · have a := Int.tmod_nonneg 15000 h
        have b := Int.tmod_lt_of_pos lev (show (0 : Int) < 15000 by decide)
        omega
      · have a := Int.tmod_nonneg 15000 (show 0 ≤ -lev by omega)
        have b := Int.tmod_lt_of_pos (-lev) (show (0 : Int) < 15000 by decide)
        rw [Int.neg_tmod] at a b
        omega
    have e4 : wr .i64 lev = lev := wrId (by omega) (by omega)
    have e6 : wr .i64 mo = mo := wrId (by omega) (by omega)
    obtain ⟨va, hva⟩ : ∃ va, va = lev.tmod 15000 := ⟨_, rfl⟩
    rw [← hva] at l0
    have e9 : wr .i64 (va + mo) = va + mo := wrId (by omega) (by omega)
    simp (disch := as_aux_lemma => first | omega | simp only [hDs] <;> omega | simp [isCell]) [hRs, takeMarks, resA, resAll, resOne, Value.cells, pa284, pb284, pc284, Land.V, hls, h10, ← hB, b5]
    refine w310 (L := L) hL ⟨eB.rdS hat.1, eB.rdS hat.2⟩ (by omega) fun A1 v1 e1 hv1 => ?_
    obtain ⟨sg, rfl, rg⟩ := hv1
    obtain ⟨pg, cg, rfl⟩ := rg.isSlice'
    have n1 := e1.1
    simp (disch := as_aux_lemma => first | omega | simp only [hDs] <;> omega | simp [isCell]) [hRs, takeMarks, resA, resAll, resOne, Value.cells, gridV, storeB_cells, setRange_all, set_push_eq, slitA, zeros, fillA]
    obtain ⟨B1, hB1⟩ : ∃ B1, B1 = A1.push (.cells [.int .i64 L.G.w, .int .i64 L.G.h, .int .i64 L.G.s, .slice pg L.G.m cg] false) := ⟨_, rfl⟩
    rw [← hB1]
    have eB1 : Ext' A1 B1 := by rw [hB1]; exact Ext'.push _ _
    have nB1 : B1.n = A1.n + 1 := by rw [hB1]; rfl
    have c11 : B1.get A1.n = some (boxG L.w L.h 100 (.slice pg L.n cg)) := by rw [hB1]; exact get_push_new
    have f1 := (eB.trans e1).trans eB1
    have r11 : RdS B1 2 L.n (ints L.G.zs) (.slice pg L.n cg) := eB1.rdS rg
    simp (disch := as_aux_lemma => first | omega | simp only [hDs] <;> omega | simp [isCell]) [hRs, takeMarks, resA, resAll, resOne, Value.cells, pd284, boxG, c11]
    refine w311 (x := L.G) ⟨_, rfl, r11⟩ hn.2.1 (by omega) (f1.rdS hs) hsr (Nat.le_refl _) fun A2 sc e2 hacc => ?_
    have n2 := e2.1
    have hcl : (seasI L.n ss ns).length = ns + 1 := seasI_len
    have rw0 : RdS A2 1 (ns + 1) (ints (seasI L.n ss ns)) sc := hacc.rd (by rw [ints_length]; show (seasI L.n ss ns).length = _; rw [hcl]; omega) (by decide)
    obtain ⟨cs, hcs⟩ : ∃ cs, cs = seasI L.n ss ns := ⟨_, rfl⟩
    rw [← hcs] at hcl rw0
    have f2 := f1.trans e2
    simp (disch := as_aux_lemma => first | omega | simp only [hDs] <;> omega | simp [isCell]) [hRs, takeMarks, resA, resAll, resOne, Value.cells, boxG, e2.get c11]
    refine w312 (x := L.G) (nw := nw) (wh := wh) ⟨_, rfl, e2.rdS r11⟩ (by show L.n < 1000; omega) (fun j hj => by have := hzr j hj; omega) (f2.rdS hsw) hwr (Nat.le_refl _) fun A3 v3 e3 hv3 => ?_
    obtain ⟨st, rfl, rt⟩ := hv3
    obtain ⟨pt, ct, rfl⟩ := rt.isSlice'
    have n3 := e3.1
    obtain ⟨Z, hZ⟩ : ∃ Z, Z = terZ L.G.zs nw wh L.n := ⟨_, rfl⟩
    have rt' : RdS A3 2 L.n (ints Z) (.slice pt L.n ct) := by rw [hZ]; exact rt
    simp (disch := as_aux_lemma => first | omega | simp only [hDs] <;> omega | simp [isCell]) [hRs, takeMarks, resA, resAll, resOne, Value.cells, gridV, storeB_cells, setRange_all, set_push_eq, slitA, zeros, fillA]
    obtain ⟨B3, hB3⟩ : ∃ B3, B3 = A3.push (.cells [.int .i64 L.G.w, .int .i64 L.G.h, .int .i64 L.G.s, .slice pt L.G.m ct] false) := ⟨_, rfl⟩
    rw [← hB3]
    have eB3 : Ext' A3 B3 := by rw [hB3]; exact Ext'.push _ _
    have nB3 : B3.n = A3.n + 1 := by rw [hB3]; rfl
    have c13 : B3.get A3.n = some (boxG L.w L.h 100 (.slice pt L.n ct)) := by rw [hB3]; exact get_push_new
    obtain ⟨B4, hB4⟩ : ∃ B4, B4 = B3.push (.cells [.int .i64 va, .int .i64 (va + mo)] false) := ⟨_, rfl⟩
    have eB4 : Ext' B3 B4 := by rw [hB4]; exact Ext'.push _ _
    have nB4 : B4.n = B3.n + 1 := by rw [hB4]; rfl
    have c14 : B4.get B3.n = some (.cells [.int .i64 va, .int .i64 (va + mo)] false) := by rw [hB4]; exact get_push_new
    simp (disch := as_aux_lemma => first | omega | simp only [hDs] <;> omega | simp [isCell]) [hRs, takeMarks, resA, resAll, resOne, Value.cells, pe284, toIntA, e4, e6, binA_rem (show (15000 : Int) ≠ 0 by decide), ← hva, e9, fillA, setRange, storeB_cells, set_push_eq, setRange_all, zeros, ← hB4]
    have hzZ : ∀ j, j < L.n → gi L.G.zs (j * 2) ≤ gi Z (j * 2) ∧ gi Z (j * 2) ≤ gi Z (j * 2 + 1) ∧ gi Z (j * 2 + 1) ≤ gi L.G.zs (j * 2 + 1) ∧ gi Z (j * 2) = gi Z (j * 2 + 1) := fun j hj => by
      have a := terH_in (zs := L.G.zs) (wh := wh) (nw := nw) (i := j) (fun i => (hwr i).1) (hzr j hj).2.1
      rw [hZ, (terZ_get hj).1, (terZ_get hj).2]
      omega
    have hE : gridE L.w L.h 100 L.n L.G.zs = 0 := hL.E
    have hEZ : gridE L.w L.h 100 L.n Z = 0 := Land.E_of hL fun j hj => by have := hzr j hj; have := hzZ j hj; omega
    have hcs0 : ∀ i, 0 ≤ gi ss i := fun i => (hsr i).1
    have q0 : seaE L.w L.h 100 L.n L.G.zs (ns + 1) cs = 0 := by rw [hcs]; exact seaE_sea0 hE hn.2.1 hcs0
    have q1 := seaE_of hE hEZ q0
    have hsea := (seaE_zero hcl q0).2.2.1
    have fl0 : floodE L.w L.h 100 L.n L.G.zs (ns + 1) cs va (va + mo) = 0 := by
      rw [floodE, if_pos q0, if_pos (by unfold validB; simp; omega)]
    have hpos : ∀ i, i < ns + 1 → 0 ≤ gi cs i := fun i hi => by
      have hmem : gi cs i ∈ cs := by
        unfold gi
        rw [List.getD_eq_getElem?_getD, List.getElem?_eq_getElem (by omega)]
        exact List.getElem_mem _
      rw [hcs] at hmem
      have := (seasI_mem hn.2.1 hcs0 hmem).1
      rw [hcs]; exact this
    have n60 : L.n ≤ 60 := by omega
    have g4 := (e3.trans eB3).trans eB4
    have d11 := (e2.trans g4).get c11
    have d13 := eB4.get c13
    have rsc := g4.rdS rw0
    have y11 := (e2.trans g4).rdS r11
    have y13 := (eB3.trans eB4).rdS rt'
    simp (disch := as_aux_lemma => first | omega | simp only [hDs] <;> omega | simp [isCell]) [hRs, takeMarks, resA, resAll, resOne, Value.cells, pf284, boxG, d11]
    refine w265 (s := 100) (zs := L.G.zs) n60 (by omega) rsc y11 (by omega) fun A5 sa d1 e5 v1 => ?_
    obtain ⟨hd1, v1⟩ := v1
    rw [q0] at hd1
    subst hd1
    rw [if_pos rfl] at v1
    obtain ⟨lo1, up1, p1, p2, ra, _⟩ := v1
    have n5 := e5.1
    simp (disch := as_aux_lemma => first | omega | simp only [hDs] <;> omega | simp [isCell]) [hRs, takeMarks, resA, resAll, resOne, Value.cells, pg284, boxG, e5.get d13]
    refine w265 (s := 100) (zs := Z) n60 (by omega) (e5.rdS rsc) (e5.rdS y13) (by omega) fun A6 sb d2 e6 v2 => ?_
    obtain ⟨hd2, v2⟩ := v2
    rw [q1] at hd2
    subst hd2
    rw [if_pos rfl] at v2
    obtain ⟨lo2, up2, p3, p4, rb, _⟩ := v2
    have n6 := e6.1
    have e56 := e5.trans e6
    simp (disch := as_aux_lemma => first | omega | simp only [hDs] <;> omega | simp [isCell]) [hRs, takeMarks, resA, resAll, resOne, Value.cells, ph284, boxG, e56.get d11]
    refine w297 (s := 100) (zs := L.G.zs) n60 (by omega) (e56.rdS rsc) (e56.rdS y11) (by omega) fun A7 sp d3 e7 v3 => ?_
    obtain ⟨hd3, v3⟩ := v3
    rw [q0] at hd3
    subst hd3
    rw [if_pos rfl] at v3
    obtain ⟨ps, lps, pps, rp, _⟩ := v3
    have n7 := e7.1
    have e57 := e56.trans e7
    simp (disch := as_aux_lemma => first | omega | simp only [hDs] <;> omega | simp [isCell]) [hRs, takeMarks, resA, resAll, resOne, Value.cells, pi284, boxG, e57.get d13]
    refine w297 (s := 100) (zs := Z) n60 (by omega) (e57.rdS rsc) (e57.rdS y13) (by omega) fun A8 sq d4 e8 v4 => ?_
    obtain ⟨hd4, v4⟩ := v4
    rw [q1] at hd4
    subst hd4
    rw [if_pos rfl] at v4
    obtain ⟨qs, lqs, pqs, rq, _⟩ := v4
    have n8 := e8.1
    have e58 := e57.trans e8
    simp (disch := as_aux_lemma => first | omega | simp only [hDs] <;> omega | simp [isCell]) [hRs, takeMarks, resA, resAll, resOne, Value.cells, pj284, boxG, e58.get d11, e58.get c14]
    refine w253 (s := 100) (zs := L.G.zs) n60 (by omega) (e58.rdS rsc) (e58.rdS y11) (by omega) fun A9 s23 s24 d5 e9' v5 => ?_
    obtain ⟨hd5, v5⟩ := v5
    rw [fl0] at hd5
    subst hd5
    rw [if_pos rfl] at v5
    obtain ⟨lo3, up3, p5, p6, r23, r24, _⟩ := v5
    have n9 := e9'.1
    have e59 := e58.trans e9'
    have k11 := (e59.rdS y11).len
    have ka := ra.len
    have kb := rb.len
    have kp := rp.len
    have kq := rq.len
    have k23 := r23.len
    have k24 := r24.len
    simp (disch := as_aux_lemma => first | omega | simp only [hDs] <;> omega | simp [isCell]) [hRs, takeMarks, resA, resAll, resOne, Value.cells, pk284, boxG, e59.get d11, k11, ka, kb, kp, kq, k23, k24]
    obtain ⟨C, hC⟩ : ∃ C, C = A9.push (.cells [.int .i64 va, .int .i64 (va + mo)] false) := ⟨_, rfl⟩
    have eC : Ext' A9 C := by rw [hC]; exact Ext'.push _ _
    have nC : C.n = A9.n + 1 := by rw [hC]; rfl
    have c158 : C.get A9.n = some (.cells (ints [va, va + mo]) false) := by rw [hC]; exact get_push_new
    simp (disch := as_aux_lemma => first | omega | simp only [hDs] <;> omega | simp [isCell]) [hRs, takeMarks, resA, resAll, resOne, Value.cells, pl284, e59.get c14, slitA, fillA, setRange, show zeros 2 [Value.int .i64 0] = [.int .i64 0, .int .i64 0] from rfl, ← hC]
    refine start284a (w := L.w) (h := L.h) (s := 100) (m := L.n) (n := ns + 1) (X13 := A3.n) (X158 := A9.n) (Z := Z) (cs := cs) (vs := [va, va + mo]) (lo2 := lo2) (up2 := up2) (sure := flS va (pairI lo3 up3 L.n) 1 L.n) (may := flS (va + mo) (pairI lo3 up3 L.n) 0 L.n)
      n60 (by omega) hw hh hEZ hsea hpos p3 ((e59.trans eC).get d13) ((e59.trans eC).rdS y13) ((e59.trans eC).rdS rsc) (((e7.trans e8).trans (e9'.trans eC)).rdS rb) (eC.rdS r23) (eC.rdS r24) c158 rfl (by omega) (fun i hi => ?_) ?_ ?_ ?_ ?_ ?_ ?_ ?_ ?_ (fun T' A' e hk => ?_)
    · have hvi : gi [va, va + mo] i = va ∨ gi [va, va + mo] i = va + mo := by
        have : i = 0 ∨ i = 1 := by omega
        rcases this with rfl | rfl
        · exact .inl rfl
        · exact .inr rfl
      have hvr : va ≤ gi [va, va + mo] i ∧ gi [va, va + mo] i ≤ va + mo := by rcases hvi with h | h <;> rw [h] <;> omega
      refine ⟨by omega, fun j hj => ?_⟩
      have a1 := sp_mono (up := false) (up' := true) hEZ hE n60 hsea (fun c hc => by have := hzZ c hc; simp [upN]; omega) p3 p6 hj
      have a2 := sp_mono (up := false) (up' := false) hE hEZ n60 hsea (fun c hc => by have := hzZ c hc; simp [upN]; omega) p5 p3 hj
      rw [gQ_flS hj, gQ_flS hj, show j * 2 + 0 = j * 2 from rfl, (pairI_get hj).1, (pairI_get hj).2]
      simp
      omega
    · simp
    · simp
    · simp
    · simp
    · simp
    · simp
    · simp
    · simp
    · have j11 : tget T' 11 = .pointer (some ⟨A1.n, 0, none⟩) := (hk 11 (by simp [kta284])).trans (by simp)
      have j12 : tget T' 12 = sc := (hk 12 (by simp [kta284])).trans (by simp)
      have j15 : tget T' 15 = sa := (hk 15 (by simp [kta284])).trans (by simp)
      have j17 : tget T' 17 = sb := (hk 17 (by simp [kta284])).trans (by simp)
      have j19 : tget T' 19 = sp := (hk 19 (by simp [kta284])).trans (by simp)
      have j21 : tget T' 21 = sq := (hk 21 (by simp [kta284])).trans (by simp)
      have eE := eC.trans e
      simp (disch := as_aux_lemma => first | omega | simp only [hDs] <;> omega | simp [isCell]) [hRs, takeMarks, resA, resAll, resOne, Value.cells, j15, ka]
      refine loop284c (A0 := A') (L := L) (n := ns + 1) (X11 := A1.n) (cs := cs) (lo1 := lo1) (up1 := up1) (la := pairI lo1 up1 L.n) (lb := pairI lo2 up2 L.n) (ps := ps) (qs := qs) (sv0 := sc) (s15 := sa) (s17 := sb) (s19 := sp) (s21 := sq)
        ⟨hL, by omega, q0, hcl, by rw [hcs]; exact zero_seas, hpos, p1, p2, fun j hj => pairI_get hj, fun j hj => ?_, fun j hj => ?_, pps⟩ (by have := eE.1; omega) ((e59.trans eE).get d11) ((e59.trans eE).rdS y11) ((e59.trans eE).rdS rsc) ((((e6.trans e7).trans e8).trans (e9'.trans eE)).rdS ra) (((e7.trans e8).trans (e9'.trans eE)).rdS rb) ((e8.trans (e9'.trans eE)).rdS rp) ((e9'.trans eE).rdS rq)
        (fun T2 A2' e2' => ?_) L.n 0 (Nat.zero_add _) ⟨Nat.le_refl _, fun _ _ => rfl⟩ ?_ ?_ ?_ ?_ ?_ ?_ ?_ ?_
      · have a1 := sp_mono (up := false) (up' := false) hE hEZ n60 hsea (fun c hc => by have := hzZ c hc; simp [upN]; omega) p1 p3 hj
        have a2 := sp_mono (up := true) (up' := true) hEZ hE n60 hsea (fun c hc => by have := hzZ c hc; simp [upN]; omega) p4 p2 hj
        have a3 := sill_pt hEZ n60 hsea (fun c hc => (hzZ c hc).2.2.2) p3 p4 hj
        unfold Wj
        rw [(pairI_get hj).1, (pairI_get hj).1, (pairI_get hj).2, (pairI_get hj).2]
        omega
      · exact ⟨PondC.mono hE hEZ n60 hsea (fun c hc => ⟨(hzZ c hc).1, (hzZ c hc).2.1, (hzZ c hc).2.2.1⟩) hj (pps j hj) (pqs j hj), PondC.pt hEZ n60 hsea (fun c hc => (hzZ c hc).2.2.2) hj (pqs j hj)⟩
      · simp (disch := as_aux_lemma => first | omega | simp only [hDs] <;> omega | simp [isCell]) [hRs, takeMarks, resA, resAll, resOne, Value.cells]
        exact hV _
      all_goals simp [j11, j12, j15, j17, j19, j21]
end
end Go.Ab.Grid
set_option maxRecDepth 100000
namespace Go.Ab.Grid
open Go Go.Ab
def tLand : Ty := .pair (.int .u8) (.pair (.int .u8) (.pair (.slice (.int .i16)) (.pair (.slice (.int .u8)) .unit)))
theorem maxLen_lt : maxLen ≤ 9223372036854775807 := by decide
theorem sh_rowk {rows : List (List Value)} {k : IntKind} {cs : List Value} (h : Sh rows (.slice (.int k)) cs) :
    ∃ (n : Nat) (zs : List Int) (sl : Value), cs = [sl] ∧ RdS (roHp rows) 1 n (kints k zs) sl ∧ (zs.length = n ∧ n ≤ 9223372036854775807) ∧ ∀ z ∈ zs, k.min ≤ z ∧ z ≤ k.max := by
  obtain ⟨n, zs, sl, h1, r, m, b⟩ := sh_slice_k (k := k) (e := .int k) (by simp [allK]) h
  refine ⟨n, zs, sl, h1, r, ⟨?_, Nat.le_trans m maxLen_lt⟩, b⟩
  have := r.1
  rw [kints_length] at this
  simpa [Ty.size] using this
theorem sh_land {rows : List (List Value)} {cs : List Value} (h : Sh rows tLand cs) : ∃ (L : Land) (sl sm : Value), mkV tLand cs = L.V sl sm ∧ L.Ok ∧ L.At (roHp rows) sl sm := by
  obtain ⟨_, _, rfl, h1, ⟨_, _, rfl, h2, ⟨_, _, rfl, h3, ⟨_, _, rfl, h4, rfl⟩⟩⟩⟩ := h
  obtain ⟨a1, rfl, b1⟩ := sh_int h1
  obtain ⟨a2, rfl, b2⟩ := sh_int h2
  obtain ⟨n3, z3, s3, rfl, r3, l3, b3⟩ := sh_rowk h3
  obtain ⟨n4, z4, s4, rfl, r4, l4, b4⟩ := sh_rowk h4
  exact ⟨⟨a1, a2, n3, z3, n4, z4⟩, s3, s4, rfl, ⟨b1, b2, fun i => gi_rng b3 (by decide) (by decide) i, fun i => gi_rng b4 (by decide) (by decide) i, l3, l4⟩, r3, r4⟩
end Go.Ab.Grid
set_option maxRecDepth 100000
namespace Go.Ab.Grid
open Go Go.Ab Go.Proofs Go.Shelf Go.ChangeShapes Go.WideShapes Go.ChangeAt Go.RowKit Go.Proofs.YtmppgcknmmmioaaGreatDoor
theorem isFn' (f nt : Nat) (rs : List ARes) (c : ACode) {W0 : Array Obj} (h : AP f = some (.fn nt rs c)) : ∃ nt rs body, (E W0).AP f = some (.fn nt rs body) := ⟨nt, rs, c, h⟩
theorem own : ownKnob Tryz.prog.godebug = none := by kernel_rfl
theorem laidOut : laidOutB Tryz.prog = true := by kernel_rfl
abbrev laidL : List (String × DataW Unit) := Rows.gridNearsRow.laid
theorem white {w : World} : Lib.VarReads Tryz.prog w "unicode.White_Space" Lib.whiteData → Lib.WhiteTab 1 w := fun h =>
  whiteTab_of_reads (ρ := Tryz.lays157_ren) { Tryz.lays157 with } { n6 := by kernel_rfl, y6 := by kernel_rfl, c3 := by kernel_rfl, c49 := by kernel_rfl, c193 := by kernel_rfl, c194 := by kernel_rfl, c196 := by kernel_rfl, c198 := by kernel_rfl } h
theorem var_heap {w : World} {n : String} {g : Nat} {cs : Array Value} (hg : Tryz.prog.globalNamed n = some g) (h : w.var? Tryz.prog n = some cs) : ∃ t fr, w.heap[g]? = some (.cells cs t fr) := by
  unfold World.var? at h
  rw [hg] at h
  simp only [Option.bind_some] at h
  split at h
  · rename_i cs' t fr he; cases h; exact ⟨t, fr, he⟩
  · cases h
theorem laidW_of {w : World} (hm : laidMet Tryz.prog laidL w) (hs : w.ShapedOpen Tryz.prog) : LaidW w := by
  have hp := Lib.laidMet.reads hm (d := Rows.laid_internal_strconv_uint64pow10) (List.mem_cons_of_mem _ (List.mem_cons_of_mem _ List.mem_cons_self))
  have hr := Lib.laidMet.reads hm (d := Rows.laid_strconv_ErrRange) (List.mem_cons_of_mem _ (List.mem_cons_of_mem _ (List.mem_cons_of_mem _ List.mem_cons_self)))
  have hy := Lib.laidMet.reads hm (d := Rows.laid_strconv_ErrSyntax) (List.mem_cons_of_mem _ (List.mem_cons_of_mem _ (List.mem_cons_of_mem _ (List.mem_cons_of_mem _ List.mem_cons_self))))
  have hw := Lib.laidMet.reads hm (d := Rows.laid_unicode_White_Space) (List.mem_cons_of_mem _ (List.mem_cons_of_mem _ (List.mem_cons_of_mem _ (List.mem_cons_of_mem _ (List.mem_cons_of_mem _ List.mem_cons_self)))))
  have ha := Lib.laidMet.reads hm (d := Rows.laid_strings_asciiSpace) (List.mem_cons_of_mem _ (List.mem_cons_of_mem _ (List.mem_cons_of_mem _ (List.mem_cons_of_mem _ (List.mem_cons_of_mem _ (List.mem_cons_of_mem _ List.mem_cons_self))))))
  have iface : ∀ {n : String} {nm : String} {d : DataW Unit} {g : Nat} {t : TypeId} {ms : Array (String × TypeId)}, Tryz.prog.globalNamed n = some g → (Tryz.prog.globals[g]?).map (·.type) = some t → Tryz.prog.underlying t = some (.interface ms) →
      Lib.VarReads Tryz.prog w n (.iface nm d) → ∃ ev, w.cell? ⟨g, 0, none⟩ = some ev ∧ (ev = .nilIface ∨ ∃ te pe, ev = .iface te pe) := by
    intro n nm d g t ms hg ht hu h
    obtain ⟨g', t', cs, fuel, p, hg', ht', hv, hd⟩ := h
    obtain rfl := Option.some.inj (hg.symm.trans hg')
    obtain rfl := Option.some.inj (ht.symm.trans ht')
    obtain ⟨_, u, v, hcs, _, _⟩ := iface_of_trod hu hd
    have := World.var?_cell hg hv 0
    rw [← Array.getElem?_toList, hcs] at this
    exact ⟨_, this, .inr ⟨u, v, rfl⟩⟩
  have tab : ∀ {n : String} {k : IntKind} {zs : List Int} {g : Nat} {t e : TypeId} {N : Nat}, Tryz.prog.globalNamed n = some g → (Tryz.prog.globals[g]?).map (·.type) = some t → Tryz.prog.underlying t = some (.array N e) →
      Tryz.prog.underlying e = some (.int k) → Tryz.prog.cellsOf e = 1 → Tryz.prog.cellsOf t = N → Lib.VarReads Tryz.prog w n (Lib.tabData k zs) → ∃ t fr, w.heap[g]? = some (.cells (zs.map fun z => Value.int k z).toArray t fr) := by
    intro n k zs g t e N hg ht hu he hce hct h
    obtain ⟨g', t', cs, fuel, p, hg', ht', hv, hd⟩ := h
    obtain rfl := Option.some.inj (hg.symm.trans hg')
    obtain rfl := Option.some.inj (ht.symm.trans ht')
    have hcs := Lib.cells_of_tab hu he hce hct hd
    obtain ⟨t, fr, h⟩ := var_heap hg hv
    exact ⟨t, fr, by rw [h, ← hcs]⟩
  refine ⟨?_, ?_, ?_, ?_, ?_, white hw⟩
  · exact cell_of_shapedOpen_int (zero := #[.int .i64 0]) (t := 3) hs (of_decide_eq_true (by kernel_rfl)) (by kernel_rfl) rfl (by kernel_rfl) (by kernel_rfl) Tryz.underlying3
  · exact iface (by kernel_rfl) (by kernel_rfl) Tryz.underlying122 hy
  · exact iface (by kernel_rfl) (by kernel_rfl) Tryz.underlying122 hr
  · exact tab (by kernel_rfl) (by kernel_rfl) Tryz.underlying207 (by kernel_rfl) (by kernel_rfl) (by kernel_rfl) ((show Rows.laid_internal_strconv_uint64pow10 = Lib.tabData .u64 Lib.pow10Tab by kernel_rfl) ▸ hp)
  · exact tab (by kernel_rfl) (by kernel_rfl) Tryz.underlying153 (by kernel_rfl) (by kernel_rfl) (by kernel_rfl) ((show Rows.laid_strings_asciiSpace = Lib.tabData .u8 Lib.asciiSpaceTab by kernel_rfl) ▸ ha)
section
variable {H : Type} {enc : TypeId × Value → H} {os : Os}
theorem laid_all (args : Array Value) : laidMetH Tryz.prog laidL ((World.laidAll Tryz.prog os laidL).forCall (fun _ _ => 0) ⟨#[], args, []⟩).memory := by
  rw [MakeChecks.laidMetH_plain _ _ _ (by kernel_rfl)]
  exact laidMet_laidAll _ (by kernel_rfl) (by kernel_rfl)
theorem laid_shaped (args : Array Value) : ((World.laidAll Tryz.prog os laidL).forCall (fun _ _ => 0) ⟨#[], args, []⟩).Shaped Tryz.prog := World.shaped_of_ZipB (by kernel_rfl) (by kernel_rfl)
theorem returns_laid {f : FuncId} {fn : Func} {s : ChangeSpec} (started : os.Started) (noInit : Tryz.checked.prog.inits.idxOf? f = none) (hfn : Tryz.checked.prog.funcs[f]? = some fn) (args0 : Array Value)
    (hok : Input.okWideB Tryz.checked.prog ((World.laidAll Tryz.prog os laidL).forCall (fun _ _ => 0) ⟨#[], args0, []⟩) f ⟨#[], args0, []⟩ = true)
    (hpre : s.preB enc Tryz.checked.prog fn [] false ((World.laidAll Tryz.prog os laidL).forCall (fun _ _ => 0) ⟨#[], args0, []⟩).memory args0 8 = true)
    (hsz : s.sizedB enc Tryz.checked.prog fn false ((World.laidAll Tryz.prog os laidL).forCall (fun _ _ => 0) ⟨#[], args0, []⟩).memory args0 8 = true)
    (contract : ∀ (W : World) (base : Nat) (args : Array Value) (ds gs : List (DataW H)) (before : List MemPlace),
      (∀ (j : Nat) t v, fn.params[j]? = some t → args[j]? = some v → Value.okWide Tryz.prog W .any base t v) →
      DataW.Whole enc Tryz.prog fn.params.toList s.vars false W args.toList ds gs before → LaidW W →
      Calls Tryz.prog f args W fun e W' => ∃ v, e = .returned v ∧ s.post enc Tryz.prog fn false true false false W args v W') :
    ReturnsInHanded {} Tryz.checked os f .any (fun w args => (s.pre enc Tryz.checked.prog fn [] false w args ∧ laidMetH Tryz.checked.prog laidL w) ∧ sizedMet enc Tryz.checked.prog fn (OpenSpec.ofChange s) false w args)
      (s.post enc Tryz.checked.prog fn false true false false) := by
  refine returnsInHanded_of_calls (C := Tryz.checked) own started noInit
    (ChangeSpec.witness_shaped (enc := enc) (C := Tryz.checked) (os := os) (s := s) (X := fun w _ => laidMetH Tryz.prog laidL w) false (World.laidAll Tryz.prog os laidL) args0 8 (World.laidAll_os _ _ _) (laid_shaped args0) hok hpre hsz (laid_all args0)) ?_
  intro w tape i _ hsh _ hok hpre _
  obtain ⟨_, _, _, fn', hfn', _, _, _, _, hval⟩ := hok
  have e : fn' = fn := Option.some.inj (hfn'.symm.trans hfn)
  subst e
  obtain ⟨⟨⟨ds, gs, before, hw, _⟩, hx⟩, _⟩ := hpre
  have hw' := DataW.Whole.of_heap (w' := w.forCall tape i) (by rfl) hw
  have hx' : laidMet Tryz.prog laidL (w.forCall tape i) := by
    have hx1 : laidMetH Tryz.prog laidL (w.forCall tape i).memory := hx
    rw [MakeChecks.laidMetH_plain _ _ _ (by kernel_rfl)] at hx1
    exact hx1.of_heap (by rfl)
  refine (contract (w.forCall tape i) w.heap.size i.args ds gs before hval hw' (laidW_of hx' hsh)).mono fun e W' ⟨v, he, hp⟩ => ?_
  subst he
  exact ChangeSpec.post_blind hp
end
end Go.Ab.Grid
set_option maxRecDepth 100000
namespace Go.Ab.Grid
open Go Go.Ab
end Go.Ab.Grid
