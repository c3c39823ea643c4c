/- The water's way, whole; a level that just floods a cell. -/
import Derived.Test.YtmppgcknmmmioaaGreatDoorZ16
import Derived.Test.YtmppgcknmmmioaaGreatDoorZ17
set_option linter.unusedSimpArgs false
set_option linter.unusedVariables false
set_option linter.unusedSectionVars false
set_option maxRecDepth 100000
namespace Go.Ab.Grid
open Go Go.Ab
def terH (zs : List Int) (nw : Nat) (wh : List Int) (i : Nat) : Int := gi zs (i * 2) + if 0 < nw then (gi wh (i % nw)).tmod (gi zs (i * 2 + 1) - gi zs (i * 2) + 1) else 0
def terZ (zs : List Int) (nw : Nat) (wh : List Int) : Nat → List Int
  | 0 => []
  | i + 1 => terZ zs nw wh i ++ [terH zs nw wh i, terH zs nw wh i]
theorem terZ_len {zs wh : List Int} {nw : Nat} : ∀ {i : Nat}, (terZ zs nw wh i).length = i * 2
  | 0 => rfl
  | i + 1 => by rw [terZ, List.length_append, terZ_len]; simp; omega
theorem terZ_get {zs wh : List Int} {nw : Nat} : ∀ {n j : Nat}, j < n → gi (terZ zs nw wh n) (j * 2) = terH zs nw wh j ∧ gi (terZ zs nw wh n) (j * 2 + 1) = terH zs nw wh j
  | 0, j, h => by omega
  | n + 1, j, h => by
    have hl : (terZ zs nw wh n).length = n * 2 := terZ_len
    rw [terZ]
    by_cases hj : j = n
    · subst hj
      exact ⟨gi_r (j := 0) hl, gi_r (j := 1) hl⟩
    · obtain ⟨a, b⟩ := terZ_get (zs := zs) (wh := wh) (nw := nw) (n := n) (j := j) (by omega)
      rw [gi_l (by omega), gi_l (by omega)]
      exact ⟨a, b⟩
theorem terH_in {zs wh : List Int} {nw i : Nat} (hw : ∀ i, 0 ≤ gi wh i) (hv : gi zs (i * 2) ≤ gi zs (i * 2 + 1)) : gi zs (i * 2) ≤ terH zs nw wh i ∧ terH zs nw wh i ≤ gi zs (i * 2 + 1) := by
  unfold terH
  split
  · have a := Int.tmod_nonneg (gi zs (i * 2 + 1) - gi zs (i * 2) + 1) (hw (i % nw))
    have b := Int.tmod_lt_of_pos (gi wh (i % nw)) (show 0 < gi zs (i * 2 + 1) - gi zs (i * 2) + 1 by omega)
    omega
  · omega
section
variable {g : Nat} {rd : Option Nat} {T : List Value} {D : List Nat} {A : Hp} {Q : Ex → St → Prop} {V : Value → Hp → Prop}
theorem loop312 {A0 : Hp} {x : G} {sl sw : Value} {nw X5 N : Nat} {wh : List Int} (hm : x.m < 1000) (hv : ∀ j, j < x.m → -1200000 ≤ gi x.zs (j * 2) ∧ gi x.zs (j * 2) ≤ gi x.zs (j * 2 + 1) ∧ gi x.zs (j * 2 + 1) ≤ 1200000) (hsl : RdS A0 2 x.m (ints x.zs) sl) (hsw : RdS A0 1 nw (kints .u8 wh) sw) (hwr : ∀ i, 0 ≤ gi wh i ∧ gi wh i ≤ 255)
    (hN : A0.n = N) (hX5 : X5 < N) (hg5 : g ≤ X5) (hg : g ≤ N) (hsl5 : ∀ z, blkOf sl = some z → z ≠ X5) (hsw5 : ∀ z, blkOf sw = some z → z ≠ X5)
    (hQ : ∀ T' A' sv, But X5 A0 A' → A'.get X5 = some (.cells [.int .i64 x.w, .int .i64 x.h, .int .i64 x.s, sv] false) → AccS N A' 2 (ints (terZ x.zs nw wh x.m)) sv → tget T' 4 = tget T 4 → tget T' 5 = .pointer (some ⟨X5, 0, none⟩) → Q (.exit 0) ⟨T', D, A'⟩) :
    ∀ (k i : Nat) {T1 : List Value} {A : Hp} (sv : Value), i + k = x.m → But X5 A0 A → A.get X5 = some (.cells [.int .i64 x.w, .int .i64 x.h, .int .i64 x.s, sv] false) → AccS N A 2 (ints (terZ x.zs nw wh i)) sv → tget T1 4 = tget T 4 →
      tget T1 1 = sw → tget T1 5 = .pointer (some ⟨X5, 0, none⟩) → tget T1 12 = sl → tget T1 13 = .int .i64 x.m → tget T1 14 = .int .i64 i → W AP KL g rd (.loop body312) ⟨T1, D, A⟩ Q := by
  intro k
  have hzl : x.zs.length = x.m * 2 := by have := hsl.1; simpa using this
  have hwl : wh.length = nw := by have := hsw.1; simpa using this
  induction k with
  | zero =>
    intro i T1 A sv hi hb h3 hacc k4 t1 t5 t12 t13 t14
    have : i = x.m := by omega
    subst this
    rw [W_loop]
    simp (disch := as_aux_lemma => first | omega | simp only [hDs] <;> omega | simp [isCell]) [hRs, takeMarks, resA, resAll, resOne, Value.cells, body312, t13, t14]
    exact hQ _ _ sv hb h3 hacc (by simp [k4]) (by simp [t5])
  | succ k ih =>
    intro i T1 A sv hi hb h3 hacc k4 t1 t5 t12 t13 t14
    have him : i < x.m := by omega
    have e5 : wr .i64 ((i : Int) + 1) = ((i + 1 : Nat) : Int) := by rw [wrId (by omega) (by omega)]; simp
    have hAn := hb.1
    obtain ⟨v1, v2, v3⟩ := hv i him
    obtain ⟨gb, gc, gr, hsq, hgb⟩ := (hsl.keepB (A' := A) fun z hz => hb.2 z (hsl.blk_lt hz) (hsl5 z hz)).at him
    have hgbn := Hp.lt_of_get hgb
    have hswA := hsw.keepB (A' := A) fun z hz => hb.2 z (hsw.blk_lt hz) (hsw5 z hz)
    have lw := hswA.len
    obtain ⟨H, hH⟩ : ∃ H, H = terH x.zs nw wh i := ⟨_, rfl⟩
    have hHr := terH_in (zs := x.zs) (wh := wh) (nw := nw) (i := i) (fun i => (hwr i).1) v2
    rw [← hH] at hHr
    obtain ⟨lo, hlo⟩ : ∃ lo, lo = gi x.zs (i * 2) := ⟨_, rfl⟩
    obtain ⟨hi', hhi⟩ : ∃ hi', hi' = gi x.zs (i * 2 + 1) := ⟨_, rfl⟩
    rw [← hlo] at v1 v2 hHr
    rw [← hhi] at v2 v3 hHr
    have hHe : H = lo + if 0 < nw then (gi wh (i % nw)).tmod (hi' - lo + 1) else 0 := by rw [hH, terH, hlo, hhi]
    have t12' := t12.trans hsq
    obtain ⟨sv', A1, a1, a2, a3, a4⟩ := append_acc (g := g) (bytes := 16) (y := A.n + 1) (A := (A.push (.cells [.int .i64 lo, .int .i64 hi'] false)).push (.cells [.int .i64 H, .int .i64 H] false)) (new := [.int .i64 H, .int .i64 H]) (ro := false) (n := i)
      (hacc.mono ((Ext'.push A _).trans (Ext'.push _ _)).2) (by omega) (by simp; omega) (get_push_eq (by simp)) rfl (by decide) rfl (by simp [terZ_len]) (by unfold room; omega)
    rw [show ints (terZ x.zs nw wh i) ++ [.int .i64 H, .int .i64 H] = ints (terZ x.zs nw wh (i + 1)) by rw [terZ, ints_append, hH]; rfl] at a2
    obtain ⟨ad, nn, cc, rfl⟩ : ∃ ad nn cc, sv' = .slice ad nn cc := by rcases a2 with ⟨rfl, _⟩ | ⟨_, _, rfl, _⟩ <;> exact ⟨_, _, _, rfl⟩
    have c3 : A1.get X5 = some (.cells [.int .i64 x.w, .int .i64 x.h, .int .i64 x.s, sv] false) := by rw [a3 _ (by omega), get_push_old (by simp; omega), get_push_old (by omega)]; exact h3
    have hfin : ∀ T2, tget T2 4 = tget T 4 → tget T2 1 = sw → tget T2 5 = .pointer (some ⟨X5, 0, none⟩) → tget T2 12 = sl → tget T2 13 = .int .i64 x.m → tget T2 14 = .int .i64 ((i + 1 : Nat) : Int) →
        W AP KL g rd (.loop body312) ⟨T2, D, A1.set X5 (some (.cells [.int .i64 x.w, .int .i64 x.h, .int .i64 x.s, .slice ad nn cc] false))⟩ Q := fun T2 j4 j1 j5 j12 j13 j14 => by
      have o1 : ∀ z, z < A1.n → z ≠ X5 → (A1.set X5 (some (.cells [.int .i64 x.w, .int .i64 x.h, .int .i64 x.s, .slice ad nn cc] false))).get z = A1.get z := fun z hz hzn => get_set_ne (Hp.lt_of_get c3) hzn
      refine ih (i + 1) (.slice ad nn cc) (by omega) ⟨by simp [a4]; omega, fun z hz hzn => ?_⟩ (get_set_same c3) (a2.keepB fun b hbb => o1 b (a2.blk_ge hbb).2 (by have := (a2.blk_ge hbb).1; omega)) j4 j1 j5 j12 j13 j14
      rw [o1 z (by rw [a4]; simp; omega) hzn, a3 z (by omega), get_push_old (by simp; omega), get_push_old (by omega), hb.2 z hz hzn]
    have z1 : zeros 1 [Value.int .i64 0, .int .i64 0] = [.int .i64 0, .int .i64 0] := rfl
    rw [W_loop]
    by_cases hw : 0 < nw
    · have em : ((i : Int).tmod nw) = ((i % nw : Nat) : Int) := by rw [Int.tmod_eq_emod_of_nonneg (by omega)]; simp
      have hml : i % nw < nw := Nat.mod_lt _ hw
      have en : ((i : Int) % (nw : Int)).toNat = i % nw := by rw [← Int.natCast_emod]; exact Int.toNat_natCast _
      obtain ⟨xb, xc, xr, hsw', hxb⟩ := hswA.at hw
      have hxbn := Hp.lt_of_get hxb
      have t1' := t1.trans hsw'
      have lw' : lenV (.slice (some ⟨xb, 0, some 1⟩) nw xc) = some (.int .i64 nw) := rfl
      have rw1 := hwr (i % nw)
      have e6 : wr .i64 (gi wh (i % nw)) = gi wh (i % nw) := wrId (by omega) (by omega)
      have e7 : wr .i64 (hi' - lo) = hi' - lo := wrId (by omega) (by omega)
      have e8 : wr .i64 (hi' - lo + 1) = hi' - lo + 1 := wrId (by omega) (by omega)
      rw [if_pos hw] at hHe
      have e9 : wr .i64 (lo + (gi wh (i % nw)).tmod (hi' - lo + 1)) = H := by rw [← hHe]; exact wrId (by omega) (by omega)
      simp (disch := as_aux_lemma => first | omega | simp only [hDs] <;> omega | simp [isCell]) [hRs, takeMarks, resA, resAll, resOne, Value.cells, body312, t1', t5, t12', t13, t14, show ((i : Int) < x.m) by omega, him, fillA, storeB_cells, setRange_all, set_push_eq, lw', h3, hgb, ints_two (show i * 2 + 2 ≤ x.zs.length by omega), ← hlo, ← hhi, idxSA_ok, setRange, slitA, z1, a1, c3, toIntA, e5, hw, binA_rem (show ((nw : Nat) : Int) ≠ 0 by omega), em, en, hml, hxb, kints_get (k := .u8) (show i % nw < wh.length by omega), e6, e7, e8, binA_rem (show hi' - lo + 1 ≠ 0 by omega), e9]
      exact hfin _ (by simp [k4]) (by simp [t1]) (by simp [t5]) (by simp [t12]) (by simp [t13]) (by simp)
    · rw [if_neg hw, Int.add_zero] at hHe
      subst hHe
      simp (disch := as_aux_lemma => first | omega | simp only [hDs] <;> omega | simp [isCell]) [hRs, takeMarks, resA, resAll, resOne, Value.cells, body312, t1, t5, t12', t13, t14, show ((i : Int) < x.m) by omega, him, fillA, storeB_cells, setRange_all, set_push_eq, lw, h3, hgb, ints_two (show i * 2 + 2 ≤ x.zs.length by omega), ← hlo, ← hhi, idxSA_ok, setRange, slitA, z1, a1, c3, toIntA, e5, show nw = 0 by omega]
      exact hfin _ (by simp [k4]) (by simp [t1]) (by simp [t5]) (by simp [t12]) (by simp [t13]) (by simp)
theorem w312 {x : G} {vx sw : Value} {nw : Nat} {wh : List Int} (hx : GAt A x vx) (hm : x.m < 1000) (hv : ∀ j, j < x.m → -1200000 ≤ gi x.zs (j * 2) ∧ gi x.zs (j * 2) ≤ gi x.zs (j * 2 + 1) ∧ gi x.zs (j * 2 + 1) ≤ 1200000) (hsw : RdS A 1 nw (kints .u8 wh) sw) (hwr : ∀ i, 0 ≤ gi wh i ∧ gi wh i ≤ 255) (hg : g ≤ A.n)
    (hV : ∀ A' v, Ext' A A' → GAt A' { x with zs := terZ x.zs nw wh x.m } v → V v A') : WF AP KL g 312 [vx, sw] A V := by
  obtain ⟨sl, rfl, rx⟩ := hx
  obtain ⟨pl, cl, rfl⟩ := rx.isSlice'
  rw [WF_body (show KL 312 = none from rfl) (show AP 312 = some F312 from rfl)]
  obtain ⟨B, hB⟩ : ∃ B, B = ((A.push (.cells [.int .i64 x.w, .int .i64 x.h, .int .i64 x.s, .slice pl x.m cl] false)).push zeroG).push (.cells [.int .i64 x.w, .int .i64 x.h, .int .i64 x.s, .slice none 0 0] false) := ⟨_, rfl⟩
  have eB : Ext' A B := by rw [hB]; exact ((Ext'.push _ _).trans (Ext'.push _ _)).trans (Ext'.push _ _)
  have nB : B.n = A.n + 3 := by rw [hB]; rfl
  have b0 : B.get A.n = some (.cells [.int .i64 x.w, .int .i64 x.h, .int .i64 x.s, .slice pl x.m cl] false) := by rw [hB, get_push_old (by simp; omega), get_push_old (by simp), get_push_eq (by omega)]
  have b1 : B.get (A.n + 1) = some zeroG := by rw [hB, get_push_old (by simp), get_push_eq (by simp)]
  have b2 : B.get (A.n + 2) = some (.cells [.int .i64 x.w, .int .i64 x.h, .int .i64 x.s, .slice none 0 0] false) := by rw [hB, get_push_eq (by simp)]
  unfold zeroG at hB
  simp (disch := as_aux_lemma => first | omega | simp only [hDs] <;> omega | simp [isCell]) [hRs, takeMarks, resA, resAll, resOne, Value.cells, F312, gridV, fillA, setRange, storeB_cells, set_push_eq, setRange_all, ← hB, b0]
  refine loop312 (A0 := B) (x := x) (X5 := A.n + 2) (N := B.n) (nw := nw) (wh := wh) hm hv (eB.rdS rx) (eB.rdS hsw) hwr rfl (by omega) (by omega) (by omega) (fun z hz => by have := rx.blk_lt hz; omega) (fun z hz => by have := hsw.blk_lt hz; omega)
    (fun T' A' sv hb h3 hacc k4 t5 => ?_) x.m 0 (.slice none 0 0) (by omega) (But.of_ext ⟨Nat.le_refl _, fun _ _ => rfl⟩) b2 AccS.nil rfl ?_ ?_ ?_ ?_ ?_
  · simp at k4
    have hn := hb.1
    have c1 : A'.get (A.n + 1) = some zeroG := by rw [hb.2 _ (by omega) (by omega)]; exact b1
    obtain ⟨ad, nn, cc, rfl⟩ : ∃ ad nn cc, sv = .slice ad nn cc := by rcases hacc with ⟨rfl, _⟩ | ⟨_, _, rfl, _⟩ <;> exact ⟨_, _, _, rfl⟩
    simp (disch := as_aux_lemma => first | omega | simp only [hDs] <;> omega | simp [isCell]) [hRs, takeMarks, resA, resAll, resOne, Value.cells, k4, t5, h3, c1, storeB_cells, setRange_all, get_set_same c1]
    have o1 : ∀ (b : Option ABlk) z, z ≠ A.n + 1 → (A'.set (A.n + 1) b).get z = A'.get z := fun b z hz => get_set_ne (by omega) hz
    refine hV _ _ ⟨by simp; omega, fun z hz => by rw [o1 _ z (by omega), hb.2 z (by omega) (by omega), eB.2 z hz]⟩ ⟨_, rfl, ?_⟩
    have hacc' := hacc.keepB (A' := A'.set (A.n + 1) (some (.cells [.int .i64 x.w, .int .i64 x.h, .int .i64 x.s, .slice ad nn cc] false))) fun b hbb => o1 _ b (by have := (hacc.blk_ge hbb).1; omega)
    obtain ⟨q, hq⟩ := hacc'.rdS
    have : q = x.m := by have := hq.1; simp [terZ_len] at this; omega
    subst this
    exact hq
  all_goals simp
end
end Go.Ab.Grid
set_option maxRecDepth 100000
namespace Go.Ab.Grid
open Go Go.Ab
theorem SFin.congr {P P' : SPar} {o : List Int} (hP : SParOk P) (hm : P.m = P'.m) (hs : P.sea = P'.sea) (hn : ∀ c, c < P.m → P.nb c = P'.nb c) (hh : ∀ c, c < P.m → P.ht c = P'.ht c) (h : SFin P o) : SFin P' o := by
  have key : ∀ {c : Nat} {v : Int}, P.Der c v → P'.Der c v := by
    intro c v hd
    induction hd with
    | @base a ha =>
      rw [hh a (hP.sea _ ha)]
      exact .base (hs ▸ ha)
    | @step a b v h1 h2 ih =>
      have ha := h1.lt hP
      rw [hh b (hP.nb _ ha _ h2)]
      exact .step ih (by rw [← hn a ha]; exact h2)
  refine ⟨by rw [h.len, hm], fun c hc => h.le c (by omega), fun c hc => ?_, fun c hc => ?_, fun a ha hne d hd => ?_⟩
  · rcases h.out c (by omega) with h1 | h1
    · exact .inl h1
    · exact .inr (key h1)
  · have hc' : c ∈ P.sea := by rw [hs]; exact hc
    rw [← hh c (hP.sea _ hc')]
    exact h.sea c hc'
  · have hd' : d ∈ P.nb a := by rw [hn a (by omega)]; exact hd
    rw [← hh d (hP.nb _ (by omega) _ hd')]
    exact h.cl a (by omega) hne d hd'
def ptZ (f : Nat → Int) : Nat → List Int
  | 0 => []
  | i + 1 => ptZ f i ++ [f i, f i]
theorem ptZ_len {f : Nat → Int} : ∀ {i : Nat}, (ptZ f i).length = i * 2
  | 0 => rfl
  | i + 1 => by rw [ptZ, List.length_append, ptZ_len]; simp; omega
theorem ptZ_get {f : Nat → Int} : ∀ {n j : Nat}, j < n → gi (ptZ f n) (j * 2) = f j ∧ gi (ptZ f n) (j * 2 + 1) = f j
  | 0, j, h => by omega
  | n + 1, j, h => by
    have hl : (ptZ f n).length = n * 2 := ptZ_len
    rw [ptZ]
    by_cases hj : j = n
    · subst hj
      exact ⟨gi_r (j := 0) hl, gi_r (j := 1) hl⟩
    · obtain ⟨a, b⟩ := ptZ_get (f := f) (n := n) (j := j) (by omega)
      rw [gi_l (by omega), gi_l (by omega)]
      exact ⟨a, b⟩
theorem Land.E_of {L : Land} {Z : List Int} (hO : L.Ok) (h : ∀ j, j < L.n → -1200000 ≤ gi Z (j * 2) ∧ gi Z (j * 2) ≤ gi Z (j * 2 + 1) ∧ gi Z (j * 2 + 1) ≤ 1200000) : gridE L.w L.h 100 L.n Z = 0 := by
  have hw := hO.w
  have hh := hO.h
  have hn := hO.n
  refine gridE_d ?_ (by rw [← hn.1]; exact (wrId (by omega) (by omega)).symm) ?_
  · rw [show (decide (1 ≤ L.w) && decide (L.w ≤ 24)) = true by simp; omega, show (decide (1 ≤ L.h) && decide (L.h ≤ 24)) = true by simp; omega]
    decide
  · rw [List.any_eq_false]
    intro j hj
    rw [List.mem_range] at hj
    have := h j hj
    have : grd Z j = true := by
      unfold grd validB
      simp
      omega
    rw [this]
    decide
section
variable {w h s s' : Int} {m n : Nat} {zs Z : List Int}
theorem seaE_of {cs : List Int} (hE : gridE w h s m zs = 0) (hE' : gridE w h s' m Z = 0) (h0 : seaE w h s m zs n cs = 0) : seaE w h s' m Z n cs = 0 := by
  unfold seaE at h0 ⊢
  rw [if_pos hE']
  rw [if_pos hE] at h0
  exact h0
theorem sill_pt {bar : Option Nat} {sea : List Nat} {o o' : List Int} (hE : gridE w h s m Z = 0) (hm : m ≤ 60) (hsea : ∀ c, c ∈ sea → c < m) (hp : ∀ j, j < m → gi Z (j * 2) = gi Z (j * 2 + 1)) (h1 : SFin (sPar false bar w h m Z sea) o) (h2 : SFin (sPar true bar w h m Z sea) o') {c : Nat} (hc : c < m) : gi o c = gi o' c := by
  have a := sp_mono (up := false) (up' := true) hE hE hm hsea (fun c hc => by have := hp c hc; simp [upN]; omega) h1 h2 hc
  have b := sp_mono (up := true) (up' := false) hE hE hm hsea (fun c hc => by have := hp c hc; simp [upN]; omega) h2 h1 hc
  omega
theorem PondC.pt {cs : List Int} {i : Nat} {a b : Int} (hE : gridE w h s m Z = 0) (hm : m ≤ 60) (hsea : ∀ c, c ∈ seaN cs → c < m) (hp : ∀ j, j < m → gi Z (j * 2) = gi Z (j * 2 + 1)) (hi : i < m) (h1 : PondC w h m Z cs i a b) : a = b := by
  unfold PondC at h1
  by_cases hin : (i : Int) ∈ cs
  · rw [if_pos hin] at h1; omega
  · rw [if_neg hin] at h1
    obtain ⟨ol, oh, f1, f2, e1, e2⟩ := h1
    have hnb : ∀ d, d ∈ nbrs w h i → d.toNat < m := fun d hd => (sPar_line (up := false) (bar := none) hE hm hsea).ok.nb i hi d.toNat (List.mem_map_of_mem hd)
    have a1 := leastL_mono (o := ol) (o' := oh) (l := nbrs w h i) fun d hd => by have := sill_pt hE hm hsea hp f1 f2 (hnb d hd); omega
    have a2 := leastL_mono (o := oh) (o' := ol) (l := nbrs w h i) fun d hd => by have := sill_pt hE hm hsea hp f1 f2 (hnb d hd); omega
    have := hp i hi
    omega
theorem sill_rng {up : Bool} {sea : List Nat} {o : List Int} (hw : 1 ≤ w ∧ w ≤ 5) (hh : 1 ≤ h ∧ h ≤ 5) (hE : gridE w h s m zs = 0) (hm : m ≤ 60) (hsea : ∀ c, c ∈ sea → c < m) (h0 : 0 ∈ sea) (ho : SFin (sPar up none w h m zs sea) o) {c : Nat} (hc : c < m) : -2000000 ≤ gi o c ∧ gi o c ≤ 1200000 := by
  have okP := (sPar_line (up := up) (bar := none) hE hm hsea).ok
  have hmw := (gridE_parts hE).2.2.1
  have hz := (gridE_parts hE).2.2.2
  have hht : ∀ j, j < m → (sPar up none w h m zs sea).ht j ≤ 1200000 := fun j hj => by
    show (if some j = none then (1073741824 : Int) else gi zs (j * 2 + upN up)) ≤ 1200000
    rw [if_neg (by simp)]
    have := hz j hj
    cases up
    · show gi zs (j * 2) ≤ 1200000; omega
    · show gi zs (j * 2 + 1) ≤ 1200000; omega
  have key : ∀ (k e : Nat), e < k → e < m → ∃ v, v ≤ 1200000 ∧ (sPar up none w h m zs sea).Der e v := by
    intro k
    induction k with
    | zero => intro e he; omega
    | succ k ih =>
      intro e he hem
      have h1 := hht e hem
      by_cases he0 : e = 0
      · subst he0
        exact ⟨_, by omega, .base h0⟩
      · obtain ⟨p, hp, hpe, _⟩ := pr_nbrs hw hh (c := e) (by omega) he0
        obtain ⟨v, hv, hd⟩ := ih p (by omega) (by omega)
        exact ⟨_, by omega, hd.step (List.mem_map.2 ⟨(e : Int), hpe, by simp⟩)⟩
  obtain ⟨v, hv, hd⟩ := key (c + 1) c (by omega) hc
  have hle := ho.least okP hd
  rcases ho.out c hc with h1 | h1
  · rw [h1] at hle; unfold noneV at hle; omega
  · have := h1.rng okP
    omega
theorem sp_congr {up up' : Bool} {bar : Option Nat} {sea : List Nat} {o : List Int} (hE : gridE w h s m zs = 0) (hm : m ≤ 60) (hsea : ∀ c, c ∈ sea → c < m) (hh : ∀ c, c < m → some c ≠ bar → gi zs (c * 2 + upN up) = gi Z (c * 2 + upN up')) (ho : SFin (sPar up bar w h m zs sea) o) : SFin (sPar up' bar w h m Z sea) o :=
  SFin.congr (sPar_line (up := up) (bar := bar) hE hm hsea).ok rfl rfl (fun _ _ => rfl) (fun c hc => by
    show (if some c = bar then (1073741824 : Int) else gi zs (c * 2 + upN up)) = if some c = bar then (1073741824 : Int) else gi Z (c * 2 + upN up')
    by_cases hb : some c = bar
    · rw [if_pos hb, if_pos hb]
    · rw [if_neg hb, if_neg hb]; exact hh c hc hb) ho
end
theorem zero_seas {m k : Nat} {ss : List Int} : 0 ∈ seaN (seasI m ss k) := by
  have : (0 : Int) ∈ seasI m ss k := by
    induction k with
    | zero => simp [seasI]
    | succ k ih => rw [seasI]; exact List.mem_append.2 (.inl ih)
  exact List.mem_map.2 ⟨0, this, rfl⟩
theorem seaE_sea0 {w h s : Int} {m k : Nat} {zs ss : List Int} (hE : gridE w h s m zs = 0) (hm : 1 ≤ m) (hs : ∀ i, 0 ≤ gi ss i) : seaE w h s m zs (k + 1) (seasI m ss k) = 0 := by
  have : (List.range (k + 1)).any (outB m (seasI m ss k)) = false := by
    rw [List.any_eq_false]
    intro j hj
    rw [List.mem_range] at hj
    have hl := seasI_len (m := m) (ss := ss) (i := k)
    have hmem : gi (seasI m ss k) j ∈ seasI m ss k := by
      unfold gi
      rw [List.getD_eq_getElem?_getD, List.getElem?_eq_getElem (by omega)]
      exact List.getElem_mem _
    have := seasI_mem hm hs hmem
    unfold outB
    simp
    omega
  rw [seaE, if_pos hE, if_neg (by omega), this]
  rfl
theorem gQ_flS {a : Int} {rs : List Int} {o n i : Nat} (h : i < n) : gQ (flS a rs o n) i = decide (gi rs (i * 2 + o) < a) := by
  unfold gQ flS
  rw [List.getD_eq_getElem?_getD]
  simp [h]
end Go.Ab.Grid
set_option maxRecDepth 100000
namespace Go.Ab.Grid
open Go Go.Ab
def apV (a : Value) (n : Nat) (b : Value) (m : Nat) : Bool :=
  match a, b with
  | .pointer (some ⟨x, o, none⟩), .pointer (some ⟨y, p, none⟩) => decide (x ≠ y ∨ o + n ≤ p ∨ p + m ≤ o)
  | .func f a b, .pointer (some ⟨x, _, _⟩) => !(capsOf (.func f a b)).contains x
  | .slice (some ⟨y, _, _⟩) _ _, .pointer (some ⟨x, _, _⟩) => decide (x ≠ y)
  | _, _ => true
theorem apartA_eq {T : List Value} {p : Opd × Nat × Opd × Nat} : apartA T p = apV (ev T p.1) p.2.1 (ev T p.2.2.1) p.2.2.2 := rfl
theorem apV_sl {p : Option Addr} {n c k m x o : Nat} {q : Option Nat} (h : ∀ z, blkOf (.slice p n c) = some z → x ≠ z) : apV (.slice p n c) k (.pointer (some ⟨x, o, q⟩)) m = true := by
  cases p with
  | none => rfl
  | some y =>
    have := h y.block rfl
    simp [apV, this]
theorem apV_ptr {x o y p n m : Nat} : apV (.pointer (some ⟨x, o, none⟩)) n (.pointer (some ⟨y, p, none⟩)) m = decide (x ≠ y ∨ o + n ≤ p ∨ p + m ≤ o) := rfl
abbrev boxG (w h s : Int) (v : Value) : ABlk := .cells [.int .i64 w, .int .i64 h, .int .i64 s, v] false
structure TwoR (g M Xa Xb : Nat) (A : Hp) (la lb : List Int) (sa sb : Value) (w h s va vb : Int) (sa' : Value) (A1 : Hp) (sb' : Value) (A2 A3 : Hp) : Prop where
  e1 : appendA g (A.push (.cells [.int .i64 va, .int .i64 va] false)) 2 16 sa (.slice (some ⟨A.n, 0, some 2⟩) 1 1) = some (sa', A1)
  e2 : appendA g (A1.push (.cells [.int .i64 vb, .int .i64 vb] false)) 2 16 sb (.slice (some ⟨A1.n, 0, some 2⟩) 1 1) = some (sb', A2)
  k1 : ∀ z, z < A.n → blkOf sa ≠ some z → A1.get z = A.get z
  xa : A2.get Xa = some (boxG w h s sa)
  xb : (A2.set Xa (some (boxG w h s sa'))).get Xb = some (boxG w h s sb)
  h3 : A3 = (A2.set Xa (some (boxG w h s sa'))).set Xb (some (boxG w h s sb'))
  n3 : A.n ≤ A3.n
  ga : A3.get Xa = some (boxG w h s sa')
  gb : A3.get Xb = some (boxG w h s sb')
  aa : AccS M A3 2 (ints (la ++ [va, va])) sa'
  ab : AccS M A3 2 (ints (lb ++ [vb, vb])) sb'
  old : ∀ z, z < A.n → z ≠ Xa → z ≠ Xb → blkOf sa ≠ some z → blkOf sb ≠ some z → A3.get z = A.get z
  ba : ∀ z, blkOf sa' = some z → A.n ≤ z
  bb : ∀ z, blkOf sb' = some z → A.n ≤ z
  d : ∀ z, blkOf sa' = some z → blkOf sb' ≠ some z
theorem two_add {g M Xa Xb i : Nat} {A : Hp} {la lb : List Int} {sa sb : Value} {w h s va vb : Int} (ha : AccS M A 2 (ints la) sa) (hb : AccS M A 2 (ints lb) sb) (hd : ∀ z, blkOf sa = some z → blkOf sb ≠ some z) (hg : g ≤ M) (hM : M ≤ A.n)
    (hXa : A.get Xa = some (boxG w h s sa)) (hXb : A.get Xb = some (boxG w h s sb)) (hXaM : Xa < M) (hXbM : Xb < M) (hne : Xa ≠ Xb) (hla : la.length = i * 2) (hlb : lb.length = i * 2) (hi : i < 1000) :
    ∃ sa' A1 sb' A2 A3, TwoR g M Xa Xb A la lb sa sb w h s va vb sa' A1 sb' A2 A3 := by
  obtain ⟨sa', A1, p1, p2, p3, p4, p5⟩ := add_keep (g := g) (bytes := 16) (n := i) (ro := false) (new := [.int .i64 va, .int .i64 va]) ha hg hM rfl (by decide) rfl (by rw [ints_length, hla]) (by unfold room; omega)
  have hb1 : AccS M A1 2 (ints lb) sb := hb.keepB fun z hz => p3 z (hb.blk_ge hz).2 fun h => hd z h hz
  obtain ⟨sb', A2, q1, q2, q3, q4, q5⟩ := add_keep (g := g) (bytes := 16) (n := i) (ro := false) (new := [.int .i64 vb, .int .i64 vb]) hb1 hg (by omega) rfl (by decide) rfl (by rw [ints_length, hlb]) (by unfold room; omega)
  have na : ∀ X, X < M → blkOf sa ≠ some X := fun X hX h => by have := (ha.blk_ge h).1; omega
  have nb : ∀ X, X < M → blkOf sb ≠ some X := fun X hX h => by have := (hb.blk_ge h).1; omega
  have xa2 : A2.get Xa = some (boxG w h s sa) := by rw [q3 Xa (by omega) (nb _ hXaM), p3 Xa (by omega) (na _ hXaM)]; exact hXa
  have xb2 : A2.get Xb = some (boxG w h s sb) := by rw [q3 Xb (by omega) (nb _ hXbM), p3 Xb (by omega) (na _ hXbM)]; exact hXb
  have xan := Hp.lt_of_get xa2
  have xbn := Hp.lt_of_get xb2
  have xb3 : (A2.set Xa (some (boxG w h s sa'))).get Xb = some (boxG w h s sb) := by rw [get_set_ne xan (fun h => hne h.symm)]; exact xb2
  have g3 : ∀ z, z ≠ Xa → z ≠ Xb → ((A2.set Xa (some (boxG w h s sa'))).set Xb (some (boxG w h s sb'))).get z = A2.get z := fun z h1 h2 => by
    rw [get_set_ne (by simpa using xbn) h2, get_set_ne xan h1]
  have sa'g : ∀ z, blkOf sa' = some z → A.n + 1 = z := fun z hz => Option.some.inj (p5.symm.trans hz)
  have sb'g : ∀ z, blkOf sb' = some z → A1.n + 1 = z := fun z hz => Option.some.inj (q5.symm.trans hz)
  have sa1n := (p2.blk_ge p5).2
  have aa2 : AccS M A2 2 (ints la ++ [.int .i64 va, .int .i64 va]) sa' := p2.keepB fun z hz => q3 z (p2.blk_ge hz).2 fun h => by
    have := sa'g z hz
    have := (hb.blk_ge h).2
    omega
  refine ⟨sa', A1, sb', A2, _, p1, q1, p3, xa2, xb3, rfl, by simp; omega, ?_, ?_, ?_, ?_, fun z hz h1 h2 h3 h4 => ?_, fun z hz => by have := sa'g z hz; omega, fun z hz => by have := sb'g z hz; omega, fun z hz h => by have := sa'g z hz; have := sb'g z h; omega⟩
  · rw [get_set_ne (by simpa using xbn) hne, get_set_same xa2]
  · rw [get_set_same xb3]
  · rw [ints_append]
    exact aa2.keepB fun z hz => g3 z (by have := sa'g z hz; omega) (by have := sa'g z hz; omega)
  · rw [ints_append]
    exact q2.keepB fun z hz => g3 z (by have := sb'g z hz; omega) (by have := sb'g z hz; omega)
  · rw [g3 z h1 h2, q3 z (by omega) h4, p3 z hz h3]
def fLo (zs : List Int) (j : Nat) : Int := gi zs (j * 2)
def fHi (zs : List Int) (j : Nat) : Int := gi zs (j * 2 + 1)
def fDeep (zs : List Int) (c j : Nat) : Int := if j = c then gi zs (j * 2) else gi zs (j * 2 + 1)
def fShal (zs : List Int) (c j : Nat) : Int := if j = c then gi zs (j * 2 + 1) else gi zs (j * 2)
structure D4 (A0 : Hp) (N : Nat) (w h s : Int) (f1 f2 f3 f4 : Nat → Int) (i : Nat) (s1 s2 s3 s4 : Value) (A : Hp) : Prop where
  b : ∀ z, z < N → A.get z = A0.get z
  n : N + 4 ≤ A.n
  x1 : A.get N = some (boxG w h s s1)
  x2 : A.get (N + 1) = some (boxG w h s s2)
  x3 : A.get (N + 2) = some (boxG w h s s3)
  x4 : A.get (N + 3) = some (boxG w h s s4)
  a1 : AccS (N + 4) A 2 (ints (ptZ f1 i)) s1
  a2 : AccS (N + 4) A 2 (ints (ptZ f2 i)) s2
  a3 : AccS (N + 4) A 2 (ints (ptZ f3 i)) s3
  a4 : AccS (N + 4) A 2 (ints (ptZ f4 i)) s4
  d12 : ∀ z, blkOf s1 = some z → blkOf s2 ≠ some z
  d13 : ∀ z, blkOf s1 = some z → blkOf s3 ≠ some z
  d14 : ∀ z, blkOf s1 = some z → blkOf s4 ≠ some z
  d23 : ∀ z, blkOf s2 = some z → blkOf s3 ≠ some z
  d24 : ∀ z, blkOf s2 = some z → blkOf s4 ≠ some z
  d43 : ∀ z, blkOf s4 = some z → blkOf s3 ≠ some z
def kt284 : List Nat := [11, 12, 15, 17, 19, 21, 30, 31, 32, 33, 34, 206, 207]
section
variable {g : Nat} {rd : Option Nat} {T : List Value} {D : List Nat} {A : Hp} {Q : Ex → St → Prop} {V : Value → Hp → Prop}
theorem D4.next {A0 A C0 A3 A4 A6 : Hp} {g N i Ya Yb : Nat} {w h s v1 v2 v3 v4 : Int} {f1 f2 f3 f4 : Nat → Int} {s1 s2 s3 s4 s1' s2' s3' s4' : Value} {B1 B2 B3 B4 : Hp} (h0 : D4 A0 N w h s f1 f2 f3 f4 i s1 s2 s3 s4 A) (e0 : Ext' A C0) (hYa : A.n ≤ Ya ∧ Ya < C0.n) (hYb : A.n ≤ Yb ∧ Yb < C0.n)
    (t1 : TwoR g (N + 4) N (N + 1) C0 (ptZ f1 i) (ptZ f2 i) s1 s2 w h s v1 v2 s1' B1 s2' B2 A3) (hm : ∀ z, z ≠ Ya → z ≠ Yb → A4.get z = A3.get z) (hn : A4.n = A3.n)
    (t2 : TwoR g (N + 4) (N + 3) (N + 2) A4 (ptZ f4 i) (ptZ f3 i) s4 s3 w h s v4 v3 s4' B3 s3' B4 A6) (q1 : v1 = f1 i) (q2 : v2 = f2 i) (q3 : v3 = f3 i) (q4 : v4 = f4 i) : D4 A0 N w h s f1 f2 f3 f4 (i + 1) s1' s2' s3' s4' A6 := by
  have n0 := h0.n
  have nC := e0.1
  have n3 := t1.n3
  have n6 := t2.n3
  have lo : ∀ {l : List Int} {sv : Value} {z : Nat}, AccS (N + 4) A 2 (ints l) sv → blkOf sv = some z → N + 4 ≤ z ∧ z < A.n := fun ha hz => ha.blk_ge hz
  have a3 : ∀ z, z < C0.n → z ≠ N → z ≠ N + 1 → blkOf s1 ≠ some z → blkOf s2 ≠ some z → z ≠ Ya → z ≠ Yb → A4.get z = C0.get z := fun z h1 h2 h3 h4 h5 h6 h7 => by rw [hm z h6 h7, t1.old z h1 h2 h3 h4 h5]
  have c1 : ∀ z, blkOf s1' = some z → A6.get z = A3.get z := fun z hz => by
    have hb := t1.ba z hz
    have hl := (t1.aa.blk_ge hz).2
    rw [t2.old z (by omega) (by omega) (by omega) (fun h => by have := (lo h0.a4 h).2; omega) (fun h => by have := (lo h0.a3 h).2; omega), hm z (by omega) (by omega)]
  have c2 : ∀ z, blkOf s2' = some z → A6.get z = A3.get z := fun z hz => by
    have hb := t1.bb z hz
    have hl := (t1.ab.blk_ge hz).2
    rw [t2.old z (by omega) (by omega) (by omega) (fun h => by have := (lo h0.a4 h).2; omega) (fun h => by have := (lo h0.a3 h).2; omega), hm z (by omega) (by omega)]
  subst q1; subst q2; subst q3; subst q4
  refine ⟨fun z hz => ?_, by omega, ?_, ?_, t2.gb, t2.ga, t1.aa.keepB c1, t1.ab.keepB c2, t2.ab, t2.aa, t1.d, fun z hz h => ?_, fun z hz h => ?_, fun z hz h => ?_, fun z hz h => ?_, t2.d⟩
  · have k : ∀ {l : List Int} {sv : Value}, AccS (N + 4) A 2 (ints l) sv → blkOf sv ≠ some z := fun ha h => by have := (lo ha h).1; omega
    rw [t2.old z (by omega) (by omega) (by omega) (k h0.a4) (k h0.a3), a3 z (by omega) (by omega) (by omega) (k h0.a1) (k h0.a2) (by omega) (by omega), e0.2 z (by omega), h0.b z hz]
  · rw [t2.old N (by omega) (by omega) (by omega) (fun h => by have := (lo h0.a4 h).1; omega) (fun h => by have := (lo h0.a3 h).1; omega), hm N (by omega) (by omega), t1.ga]
  · rw [t2.old (N + 1) (by omega) (by omega) (by omega) (fun h => by have := (lo h0.a4 h).1; omega) (fun h => by have := (lo h0.a3 h).1; omega), hm (N + 1) (by omega) (by omega), t1.gb]
  · have := t2.bb z h; have := (t1.aa.blk_ge hz).2; omega
  · have := t2.ba z h; have := (t1.aa.blk_ge hz).2; omega
  · have := t2.bb z h; have := (t1.ab.blk_ge hz).2; omega
  · have := t2.ba z h; have := (t1.ab.blk_ge hz).2; omega
end
end Go.Ab.Grid
set_option maxRecDepth 100000
namespace Go.Ab.Grid
open Go Go.Ab
section
variable {g : Nat} {rd : Option Nat} {T : List Value} {D : List Nat} {A : Hp} {Q : Ex → St → Prop} {V : Value → Hp → Prop}
theorem loop284d {A0 : Hp} {N c m : Nat} {zs : List Int} {w h s : Int} {sg : Value} {T0 : List Value} (hm : m < 1000) (hsl : RdS A0 2 m (ints zs) sg) (hsgN : ∀ z, blkOf sg = some z → z < N) (hg : g ≤ N) (t30 : tget T0 30 = .int .i64 c) (t31 : tget T0 31 = .pointer (some ⟨N, 0, none⟩)) (t32 : tget T0 32 = .pointer (some ⟨N + 1, 0, none⟩)) (t33 : tget T0 33 = .pointer (some ⟨N + 2, 0, none⟩)) (t34 : tget T0 34 = .pointer (some ⟨N + 3, 0, none⟩))
    (hQ : ∀ T' A' s1 s2 s3 s4, D4 A0 N w h s (fLo zs) (fHi zs) (fDeep zs c) (fShal zs c) m s1 s2 s3 s4 A' → (∀ t, t ∈ kt284 → tget T' t = tget T0 t) → Q (.exit 6) ⟨T', D, A'⟩) :
    ∀ (k i : Nat) {T : List Value} {A : Hp} (s1 s2 s3 s4 : Value), i + k = m → D4 A0 N w h s (fLo zs) (fHi zs) (fDeep zs c) (fShal zs c) i s1 s2 s3 s4 A → (∀ t, t ∈ kt284 → tget T t = tget T0 t) →
      tget T 267 = sg → tget T 268 = .int .i64 m → tget T 269 = .int .i64 i → W AP KL g rd (.loop body284d) ⟨T, D, A⟩ Q := by
  intro k
  have hzl : zs.length = m * 2 := by have := hsl.1; simpa using this
  induction k with
  | zero =>
    intro i T A s1 s2 s3 s4 hi hD hk t267 t268 t269
    have : i = m := by omega
    subst this
    rw [W_loop]
    simp (disch := as_aux_lemma => first | omega | simp only [hDs] <;> omega | simp [isCell]) [hRs, takeMarks, resA, resAll, resOne, Value.cells, body284d, t268, t269]
    refine hQ _ _ s1 s2 s3 s4 hD fun t ht => ?_
    rw [← hk t ht]
    simp [kt284] at ht
    rcases ht with rfl | rfl | rfl | rfl | rfl | rfl | rfl | rfl | rfl | rfl | rfl | rfl | rfl <;> simp
  | succ k ih =>
    intro i T A s1 s2 s3 s4 hi hD hk t267 t268 t269
    have him : i < m := by omega
    have e5 : wr .i64 ((i : Int) + 1) = ((i + 1 : Nat) : Int) := by rw [wrId (by omega) (by omega)]; simp
    have nA := hD.n
    obtain ⟨gb, gc, gr, hsg, hgb⟩ := (hsl.keepB (A' := A) fun z hz => hD.b z (hsgN z hz)).at him
    have hgbn := Hp.lt_of_get hgb
    have t267' := t267.trans hsg
    have k30 := (hk 30 (by simp [kt284])).trans t30
    have k31 := (hk 31 (by simp [kt284])).trans t31
    have k32 := (hk 32 (by simp [kt284])).trans t32
    have k33 := (hk 33 (by simp [kt284])).trans t33
    have k34 := (hk 34 (by simp [kt284])).trans t34
    obtain ⟨p1, n1, c1, rfl⟩ := hD.a1.isSlice
    obtain ⟨p2, n2, c2, rfl⟩ := hD.a2.isSlice
    obtain ⟨p3, n3, c3, rfl⟩ := hD.a3.isSlice
    obtain ⟨p4, n4, c4, rfl⟩ := hD.a4.isSlice
    obtain ⟨lo, hlo⟩ : ∃ lo, lo = gi zs (i * 2) := ⟨_, rfl⟩
    obtain ⟨up, hup⟩ : ∃ up, up = gi zs (i * 2 + 1) := ⟨_, rfl⟩
    have z1 : zeros 1 [Value.int .i64 0, .int .i64 0] = [.int .i64 0, .int .i64 0] := rfl
    obtain ⟨C0, hC0⟩ : ∃ C0, C0 = ((A.push (.cells [.int .i64 lo, .int .i64 up] false)).push (.cells [.int .i64 lo, .int .i64 lo] false)).push (.cells [.int .i64 up, .int .i64 up] false) := ⟨_, rfl⟩
    have eC : Ext' A C0 := by rw [hC0]; exact ((Ext'.push _ _).trans (Ext'.push _ _)).trans (Ext'.push _ _)
    have nC : C0.n = A.n + 3 := by rw [hC0]; rfl
    have y37 : C0.get (A.n + 1) = some (.cells [.int .i64 lo, .int .i64 lo] false) := by rw [hC0, get_push_old (by simp), get_push_eq (by simp)]
    have y38 : C0.get (A.n + 1 + 1) = some (.cells [.int .i64 up, .int .i64 up] false) := by rw [hC0, get_push_eq (by simp)]
    have g1 : ∀ z, blkOf (.slice p1 n1 c1) = some z → N + 4 ≤ z ∧ z < A.n := fun z hz => hD.a1.blk_ge hz
    have g2 : ∀ z, blkOf (.slice p2 n2 c2) = some z → N + 4 ≤ z ∧ z < A.n := fun z hz => hD.a2.blk_ge hz
    have g3 : ∀ z, blkOf (.slice p3 n3 c3) = some z → N + 4 ≤ z ∧ z < A.n := fun z hz => hD.a3.blk_ge hz
    have g4 : ∀ z, blkOf (.slice p4 n4 c4) = some z → N + 4 ≤ z ∧ z < A.n := fun z hz => hD.a4.blk_ge hz
    obtain ⟨sa, B1, sb, B2, A3, t1⟩ := two_add (g := g) (M := N + 4) (Xa := N) (Xb := N + 1) (i := i) (va := lo) (vb := up) (hD.a1.mono eC.2) (hD.a2.mono eC.2) hD.d12 (by omega) (by omega) (eC.get hD.x1) (eC.get hD.x2) (by omega) (by omega) (by omega) ptZ_len ptZ_len (by omega)
    obtain ⟨pa, na, ca, rfl⟩ := t1.aa.isSlice
    obtain ⟨pb, nb, cb, rfl⟩ := t1.ab.isSlice
    have l32 : B1.get (N + 1) = some (boxG w h s (.slice p2 n2 c2)) := by rw [t1.k1 _ (by omega) (fun h => by have := g1 _ h; omega)]; exact eC.get hD.x2
    have l38 : B1.get (A.n + 1 + 1) = some (.cells [.int .i64 up, .int .i64 up] false) := by rw [t1.k1 _ (by omega) (fun h => by have := g1 _ h; omega)]; exact y38
    have f3 : ∀ z, z < C0.n → z ≠ N → z ≠ N + 1 → (∀ y, blkOf (.slice p1 n1 c1) = some y → y ≠ z) → (∀ y, blkOf (.slice p2 n2 c2) = some y → y ≠ z) → A3.get z = C0.get z := fun z h1 h2 h3 h4 h5 => t1.old z h1 h2 h3 (fun h => h4 z h rfl) (fun h => h5 z h rfl)
    have m37 : A3.get (A.n + 1) = some (.cells [.int .i64 lo, .int .i64 lo] false) := by rw [f3 _ (by omega) (by omega) (by omega) (fun y hy => by have := g1 y hy; omega) (fun y hy => by have := g2 y hy; omega)]; exact y37
    have m38 : A3.get (A.n + 1 + 1) = some (.cells [.int .i64 up, .int .i64 up] false) := by rw [f3 _ (by omega) (by omega) (by omega) (fun y hy => by have := g1 y hy; omega) (fun y hy => by have := g2 y hy; omega)]; exact y38
    have m33 : A3.get (N + 2) = some (boxG w h s (.slice p3 n3 c3)) := by rw [f3 _ (by omega) (by omega) (by omega) (fun y hy => by have := g1 y hy; omega) (fun y hy => by have := g2 y hy; omega)]; exact eC.get hD.x3
    have m34 : A3.get (N + 3) = some (boxG w h s (.slice p4 n4 c4)) := by rw [f3 _ (by omega) (by omega) (by omega) (fun y hy => by have := g1 y hy; omega) (fun y hy => by have := g2 y hy; omega)]; exact eC.get hD.x4
    have n3' := t1.n3
    have j3 : AccS (N + 4) A3 2 (ints (ptZ (fDeep zs c) i)) (.slice p3 n3 c3) := hD.a3.keepB fun z hz => by
      rw [f3 z (by have := g3 z hz; omega) (by have := g3 z hz; omega) (by have := g3 z hz; omega) (fun y hy hyz => hD.d13 y hy (by rw [hyz]; exact hz)) (fun y hy hyz => hD.d23 y hy (by rw [hyz]; exact hz)), eC.2 z (g3 z hz).2]
    have j4 : AccS (N + 4) A3 2 (ints (ptZ (fShal zs c) i)) (.slice p4 n4 c4) := hD.a4.keepB fun z hz => by
      rw [f3 z (by have := g4 z hz; omega) (by have := g4 z hz; omega) (by have := g4 z hz; omega) (fun y hy hyz => hD.d14 y hy (by rw [hyz]; exact hz)) (fun y hy hyz => hD.d24 y hy (by rw [hyz]; exact hz)), eC.2 z (g4 z hz).2]
    have ap1 : ∀ k m x o q, (x = N + 1 ∨ x = A.n + 1 + 1) → apV (.slice p1 n1 c1) k (.pointer (some ⟨x, o, q⟩)) m = true := fun k m x o q hx => apV_sl fun z hz => by have := g1 z hz; omega
    have ap4 : ∀ k m x o q, (x = N + 2 ∨ x = A.n + 1 + 1) → apV (.slice p4 n4 c4) k (.pointer (some ⟨x, o, q⟩)) m = true := fun k m x o q hx => apV_sl fun z hz => by have := g4 z hz; omega
    have hfin : ∀ T' A' s1' s2' s3' s4', D4 A0 N w h s (fLo zs) (fHi zs) (fDeep zs c) (fShal zs c) (i + 1) s1' s2' s3' s4' A' → (∀ t, t ∈ kt284 → tget T' t = tget T t) → tget T' 267 = sg → tget T' 268 = .int .i64 m → tget T' 269 = .int .i64 ((i + 1 : Nat) : Int) → W AP KL g rd (.loop body284d) ⟨T', D, A'⟩ Q :=
      fun T' A' s1' s2' s3' s4' a1 a2 a3 a4 a5 => ih (i + 1) s1' s2' s3' s4' (by omega) a1 (fun t ht => (a2 t ht).trans (hk t ht)) a3 a4 a5
    rw [W_loop]
    by_cases hic : i = c
    · subst hic
      obtain ⟨A4, hA4⟩ : ∃ A4, A4 = (A3.set (A.n + 1) (some (.cells [.int .i64 up, .int .i64 up] false))).set (A.n + 1 + 1) (some (.cells [.int .i64 lo, .int .i64 lo] false)) := ⟨_, rfl⟩
      have m38' : (A3.set (A.n + 1) (some (.cells [.int .i64 up, .int .i64 up] false))).get (A.n + 1 + 1) = some (.cells [.int .i64 up, .int .i64 up] false) := by rw [get_set_ne (by omega) (by omega)]; exact m38
      have o4 : ∀ z, z ≠ A.n + 1 → z ≠ A.n + 1 + 1 → A4.get z = A3.get z := fun z h1 h2 => by rw [hA4, get_set_ne (by simp; omega) h2, get_set_ne (by omega) h1]
      have n4' : A4.n = A3.n := by rw [hA4]; simp
      have w37 : A4.get (A.n + 1) = some (.cells [.int .i64 up, .int .i64 up] false) := by rw [hA4, get_set_ne (by simp; omega) (by omega), get_set_same m37]
      have w38 : A4.get (A.n + 1 + 1) = some (.cells [.int .i64 lo, .int .i64 lo] false) := by rw [hA4, get_set_same m38']
      obtain ⟨sc, B3, sd, B4, A6, t2⟩ := two_add (g := g) (M := N + 4) (Xa := N + 3) (Xb := N + 2) (A := A4) (i := i) (va := up) (vb := lo) (w := w) (h := h) (s := s) (j4.keepB fun z hz => o4 z (by have := g4 z hz; omega) (by have := g4 z hz; omega)) (j3.keepB fun z hz => o4 z (by have := g3 z hz; omega) (by have := g3 z hz; omega)) hD.d43 (by omega) (by omega) (by rw [o4 _ (by omega) (by omega)]; exact m34) (by rw [o4 _ (by omega) (by omega)]; exact m33) (by omega) (by omega) (by omega) ptZ_len ptZ_len (by omega)
      obtain ⟨pc, nc, cc, rfl⟩ := t2.aa.isSlice
      obtain ⟨pd, nd, cd, rfl⟩ := t2.ab.isSlice
      have l33 : B3.get (N + 2) = some (boxG w h s (.slice p3 n3 c3)) := by rw [t2.k1 _ (by omega) (fun h => by have := g4 _ h; omega), o4 _ (by omega) (by omega)]; exact m33
      have l38' : B3.get (A.n + 1 + 1) = some (.cells [.int .i64 lo, .int .i64 lo] false) := by rw [t2.k1 _ (by omega) (fun h => by have := g4 _ h; omega)]; exact w38
      have m34' : A4.get (N + 3) = some (boxG w h s (.slice p4 n4 c4)) := by rw [o4 _ (by omega) (by omega)]; exact m34
      have hDn := hD.next (A6 := A6) eC (Ya := A.n + 1) (Yb := A.n + 1 + 1) ⟨by omega, by omega⟩ ⟨by omega, by omega⟩ t1 o4 n4' t2 (by rw [fLo, hlo]) (by rw [fHi, hup]) (by rw [fDeep, if_pos rfl, hlo]) (by rw [fShal, if_pos rfl, hup])
      simp (disch := as_aux_lemma => first | omega | simp only [hDs] <;> omega | simp [isCell]) [hRs, takeMarks, resA, resAll, resOne, Value.cells, body284d, k30, k31, k32, k33, k34, t267', t268, t269, show ((i : Int) < m) by omega, him, idxSA_ok, hgb, ints_two (show i * 2 + 2 ≤ zs.length by omega), ← hlo, ← hup, fillA, storeB_cells, setRange_all, setRange, set_push_eq, slitA, z1, apartA_eq, apV_ptr, ap1, ap4, ← hC0, eC.get hD.x1, y37, boxG, t1.e1, l32, l38, t1.e2, t1.xa, t1.xb, ← t1.h3, m37, m38, m38', ← hA4, w37, w38, m34', t2.e1, l33, l38', t2.e2, t2.xa, t2.xb, ← t2.h3, e5]
      refine hfin _ _ _ _ _ _ hDn ?_ ?_ ?_ ?_
      · intro t ht
        simp [kt284] at ht
        rcases ht with rfl | rfl | rfl | rfl | rfl | rfl | rfl | rfl | rfl | rfl | rfl | rfl | rfl <;> simp
      all_goals simp [t267, t268]
    · have hic' : ¬ ((i : Int) = (c : Int)) := by omega
      obtain ⟨sc, B3, sd, B4, A6, t2⟩ := two_add (g := g) (M := N + 4) (Xa := N + 3) (Xb := N + 2) (A := A3) (i := i) (va := lo) (vb := up) (w := w) (h := h) (s := s) j4 j3 hD.d43 (by omega) (by omega) m34 m33 (by omega) (by omega) (by omega) ptZ_len ptZ_len (by omega)
      obtain ⟨pc, nc, cc, rfl⟩ := t2.aa.isSlice
      obtain ⟨pd, nd, cd, rfl⟩ := t2.ab.isSlice
      have l33 : B3.get (N + 2) = some (boxG w h s (.slice p3 n3 c3)) := by rw [t2.k1 _ (by omega) (fun h => by have := g4 _ h; omega)]; exact m33
      have l38' : B3.get (A.n + 1 + 1) = some (.cells [.int .i64 up, .int .i64 up] false) := by rw [t2.k1 _ (by omega) (fun h => by have := g4 _ h; omega)]; exact m38
      have hDn := hD.next (A6 := A6) eC (Ya := A.n + 1) (Yb := A.n + 1 + 1) ⟨by omega, by omega⟩ ⟨by omega, by omega⟩ t1 (fun _ _ _ => rfl) rfl t2 (by rw [fLo, hlo]) (by rw [fHi, hup]) (by rw [fDeep, if_neg hic, hup]) (by rw [fShal, if_neg hic, hlo])
      simp (disch := as_aux_lemma => first | omega | simp only [hDs] <;> omega | simp [isCell]) [hRs, takeMarks, resA, resAll, resOne, Value.cells, body284d, k30, k31, k32, k33, k34, t267', t268, t269, show ((i : Int) < m) by omega, him, idxSA_ok, hgb, ints_two (show i * 2 + 2 ≤ zs.length by omega), ← hlo, ← hup, fillA, storeB_cells, setRange_all, setRange, set_push_eq, slitA, z1, apartA_eq, apV_ptr, ap1, ap4, ← hC0, eC.get hD.x1, y37, boxG, t1.e1, l32, l38, t1.e2, t1.xa, t1.xb, ← t1.h3, hic, hic', m37, m38, m34, t2.e1, l33, l38', t2.e2, t2.xa, t2.xb, ← t2.h3, e5]
      refine hfin _ _ _ _ _ _ hDn ?_ ?_ ?_ ?_
      · intro t ht
        simp [kt284] at ht
        rcases ht with rfl | rfl | rfl | rfl | rfl | rfl | rfl | rfl | rfl | rfl | rfl | rfl | rfl <;> simp
      all_goals simp [t267, t268]
end
end Go.Ab.Grid
set_option maxRecDepth 100000
namespace Go.Ab.Grid
open Go Go.Ab
def QS (N : Nat) (A : Hp) (q : List Nat) (sv : Value) : Prop :=
  (sv = .slice none 0 0 ∧ q = []) ∨ ∃ b off c cs, sv = .slice (some ⟨b, off, some 1⟩) q.length c ∧ A.get b = some (.cells cs false) ∧ N ≤ b ∧ off + q.length = cs.length ∧ cs.drop off = ints (castS q) ∧ q.length ≤ c
theorem QS.len {N : Nat} {A : Hp} {q : List Nat} {sv : Value} (h : QS N A q sv) : lenV sv = some (.int .i64 q.length) := by
  rcases h with ⟨rfl, rfl⟩ | ⟨b, off, c, cs, rfl, _⟩ <;> rfl
theorem QS.mono {N : Nat} {A A' : Hp} {q : List Nat} {sv : Value} (h : QS N A q sv) (hA : ∀ x, blkOf sv = some x → x < A.n → A'.get x = A.get x) : QS N A' q sv := by
  rcases h with h | ⟨b, off, c, cs, rfl, h2, h3⟩
  · exact .inl h
  · exact .inr ⟨b, off, c, cs, rfl, by rw [hA b rfl (Hp.lt_of_get h2)]; exact h2, h3⟩
theorem QS.blk {N : Nat} {A : Hp} {q : List Nat} {sv : Value} (h : QS N A q sv) {z : Nat} (hz : blkOf sv = some z) : N ≤ z ∧ z < A.n := by
  rcases h with ⟨rfl, _⟩ | ⟨b, off, c, cs, rfl, h2, h3, _⟩
  · cases hz
  · cases hz
    exact ⟨h3, Hp.lt_of_get h2⟩
theorem QS.push {g N y x : Nat} {A : Hp} {q : List Nat} {sv : Value} {ro : Bool} (h : QS N A q sv) (hg : g ≤ N) (hN : N ≤ A.n) (hy : A.get y = some (.cells [.int .i64 x] ro)) (hq : q.length < 1000000) :
    ∃ A', appendA g A 1 8 sv (.slice (some ⟨y, 0, some 1⟩) 1 1) = some (.slice (some ⟨A.n, 0, some 1⟩) (q.length + 1) (q.length + 1), A') ∧ QS N A' (q ++ [x]) (.slice (some ⟨A.n, 0, some 1⟩) (q.length + 1) (q.length + 1)) ∧ (∀ z, z < A.n → blkOf sv ≠ some z → A'.get z = A.get z) ∧ A'.n = A.n + 1 := by
  have hcells : cellsAt A (1 * 1) (.slice (some ⟨y, 0, some 1⟩) 1 1) = some [.int .i64 x] := by
    simp only [cellsAt, hy]
    rfl
  have hroom : (q.length + 1) * 8 ≤ room ∧ q.length + 1 ≤ room := by unfold room; omega
  rcases h with ⟨rfl, rfl⟩ | ⟨b, off, c, cs, rfl, hb, hNb, hk, hd, hc⟩
  · refine ⟨A.push (.cells [.int .i64 x] false), ?_, .inr ⟨A.n, 0, 1, [.int .i64 x], rfl, get_push_new, hN, rfl, rfl, by simp⟩, fun z hz _ => get_push_old hz, rfl⟩
    unfold appendA
    simp only [hcells]
    rw [if_pos ⟨rfl, by decide⟩]
    simp only [if_neg (show ¬ (1 = 0) by decide)]
    rw [if_pos ⟨by unfold room; omega, by unfold room; omega⟩]
    rfl
  · refine ⟨(A.set b none).push (.cells (cs.drop off ++ [.int .i64 x]) false), ?_, .inr ⟨A.n, 0, q.length + 1, cs.drop off ++ [.int .i64 x], by simp, by rw [Hp.get_push, Hp.n_set, if_pos rfl], hN, by simp; omega, by rw [hd]; simp [castS, ints], by simp⟩,
      fun z hz hne => ?_, rfl⟩
    · unfold appendA
      simp only [hcells]
      rw [if_pos ⟨rfl, by decide⟩]
      simp only [if_neg (show ¬ (1 = 0) by decide), hb]
      rw [if_pos ⟨by omega, hroom.1, hroom.2, trivial⟩, if_pos (by omega)]
    · have hne' : z ≠ b := fun h => hne (by rw [h]; rfl)
      rw [Hp.get_push, Hp.n_set, if_neg (by omega), Hp.get_set hb, if_neg hne']
theorem QS.head {N : Nat} {A : Hp} {q : List Nat} {x : Nat} {sv : Value} (h : QS N A (x :: q) sv) : ∃ b off c cs, sv = .slice (some ⟨b, off, some 1⟩) (q.length + 1) c ∧ A.get b = some (.cells cs false) ∧ cellAt cs off = some (.int .i64 x) ∧
    QS N A q (.slice (some ⟨b, off + 1, some 1⟩) q.length (Max.max (q.length + 1) c - 1)) := by
  rcases h with ⟨_, h⟩ | ⟨b, off, c, cs, rfl, hb, hNb, hk, hd, hc⟩
  · cases h
  · have hl : off < cs.length := by rw [List.length_cons] at hk; omega
    have h1 := List.drop_eq_getElem_cons hl
    rw [h1] at hd
    have h2 : cs[off] = .int .i64 x ∧ cs.drop (off + 1) = ints (castS q) := by
      simp only [castS, ints, List.map_cons, List.cons.injEq] at hd
      exact hd
    refine ⟨b, off, c, cs, rfl, hb, ?_, .inr ⟨b, off + 1, _, cs, rfl, hb, hNb, by rw [List.length_cons] at hk; omega, h2.2, by rw [List.length_cons] at hc; omega⟩⟩
    unfold cellAt
    rw [List.getElem?_eq_getElem hl, h2.1]
section
variable {g : Nat} {rd : Option Nat} {T : List Value} {D : List Nat} {A : Hp} {Q : Ex → St → Prop} {V : Value → Hp → Prop}
theorem sq_le {a : Int} (h1 : -1000 ≤ a) (h2 : a ≤ 1000) : 0 ≤ a * a ∧ a * a ≤ 1000000 := by
  have a1 : 0 ≤ a * a := by
    rcases Int.le_total 0 a with h | h
    · exact Int.mul_nonneg h h
    · have := Int.mul_nonneg (show 0 ≤ -a by omega) (show 0 ≤ -a by omega)
      rw [Int.neg_mul_neg] at this
      exact this
  have a2 := Int.mul_nonneg (show 0 ≤ 1000 - a by omega) (show 0 ≤ 1000 + a by omega)
  have e : (1000 - a) * (1000 + a) = 1000000 - a * a := by
    rw [Int.sub_mul, Int.mul_add, Int.mul_add, Int.mul_comm a 1000]
    omega
  omega
theorem loop319 {A0 : Hp} {w h s c : Int} {sl : Value} {X2 N m : Nat} (hw : 1 ≤ w ∧ w ≤ 24) (hc : 0 ≤ c ∧ c < 1000) (hm : m < 1000) (hX : A0.get X2 = some (.cells [.int .i64 w, .int .i64 h, .int .i64 s, sl] false)) (hXN : X2 < N) (hg : g ≤ N)
    (hQ : ∀ T' A' sv, (∀ z, z < N → A'.get z = A0.get z) → N ≤ A'.n → AccS N A' 1 (ints (nearI w c m)) sv → tget T' 5 = sv → Q (.exit 0) ⟨T', D, A'⟩) :
    ∀ (k i : Nat) {T : List Value} {A : Hp} (sv : Value), i + k = m → (∀ z, z < N → A.get z = A0.get z) → N ≤ A.n → AccS N A 1 (ints (nearI w c i)) sv → tget T 1 = .int .i64 c → tget T 2 = .pointer (some ⟨X2, 0, none⟩) → tget T 5 = sv → tget T 11 = .int .i64 m → tget T 12 = .int .i64 i → W AP KL g rd (.loop body319) ⟨T, D, A⟩ Q := by
  intro k
  induction k with
  | zero =>
    intro i T A sv hi hb hNA hacc t1 t2 t5 t11 t12
    have : i = m := by omega
    subst this
    rw [W_loop]
    simp (disch := as_aux_lemma => first | omega | simp only [hDs] <;> omega | simp [isCell]) [hRs, takeMarks, resA, resAll, resOne, Value.cells, body319, t11, t12]
    exact hQ _ _ sv hb hNA hacc (by simp [t5])
  | succ k ih =>
    intro i T A sv hi hb hNA hacc t1 t2 t5 t11 t12
    have e5 : wr .i64 ((i : Int) + 1) = ((i + 1 : Nat) : Int) := by rw [wrId (by omega) (by omega)]; simp
    have aX : A.get X2 = some (.cells [.int .i64 w, .int .i64 h, .int .i64 s, sl] false) := by rw [hb _ hXN]; exact hX
    have r1 : 0 ≤ c.tmod w ∧ c.tmod w < 24 := ⟨Int.tmod_nonneg _ hc.1, by have := Int.tmod_lt_of_pos c (show 0 < w by omega); omega⟩
    have r2 : 0 ≤ (i : Int).tmod w ∧ (i : Int).tmod w < 24 := ⟨Int.tmod_nonneg _ (by omega), by have := Int.tmod_lt_of_pos (i : Int) (show 0 < w by omega); omega⟩
    have r3 : 0 ≤ c.tdiv w ∧ c.tdiv w ≤ c := ⟨Int.tdiv_nonneg hc.1 (by omega), Int.tdiv_le_self _ hc.1⟩
    have r4 : 0 ≤ (i : Int).tdiv w ∧ (i : Int).tdiv w ≤ i := ⟨Int.tdiv_nonneg (by omega) (by omega), Int.tdiv_le_self _ (by omega)⟩
    obtain ⟨a, ha⟩ : ∃ a, a = c.tmod w - (i : Int).tmod w := ⟨_, rfl⟩
    obtain ⟨b, hbb⟩ : ∃ b, b = c.tdiv w - (i : Int).tdiv w := ⟨_, rfl⟩
    have s1 := sq_le (a := a) (by omega) (by omega)
    have s2 := sq_le (a := b) (by omega) (by omega)
    have q1 : wr .i64 (c.tdiv w) = c.tdiv w := wrId (by omega) (by omega)
    have q2 : wr .i64 ((i : Int).tdiv w) = (i : Int).tdiv w := wrId (by omega) (by omega)
    have q3 : wr .i64 (c.tmod w - (i : Int).tmod w) = a := by rw [ha]; exact wrId (by omega) (by omega)
    have q4 : wr .i64 (c.tdiv w - (i : Int).tdiv w) = b := by rw [hbb]; exact wrId (by omega) (by omega)
    have ed : (i : Int).tdiv w = (i : Int) / w := Int.tdiv_eq_ediv_of_nonneg (by omega)
    have q2' : wr .i64 ((i : Int) / w) = (i : Int) / w := by rw [← ed]; exact q2
    have q4' : wr .i64 (c.tdiv w - (i : Int) / w) = b := by rw [← ed]; exact q4
    have q5 : wr .i64 (a * a) = a * a := wrId (by omega) (by omega)
    have q6 : wr .i64 (b * b) = b * b := wrId (by omega) (by omega)
    have q7 : wr .i64 (a * a + b * b) = a * a + b * b := wrId (by omega) (by omega)
    have hnr : nrC w c i = decide (a * a + b * b = 1) := by unfold nrC; rw [ha, hbb]
    rw [W_loop]
    by_cases hn : a * a + b * b = 1
    · obtain ⟨sv', A1, a1, a2, a3, a4⟩ := append_acc (g := g) (bytes := 8) (y := A.n) (A := A.push (.cells [.int .i64 (i : Int)] false)) (new := [.int .i64 (i : Int)]) (ro := false) (n := (nearI w c i).length) (hacc.mono (Ext'.push A _).2) (by omega) (by simp; omega) get_push_new rfl (by decide) rfl (by simp) (by have := nearI_le (w := w) (c := c) (n := i); unfold room; omega)
      rw [show ints (nearI w c i) ++ [.int .i64 (i : Int)] = ints (nearI w c (i + 1)) by rw [nearI, hnr, if_pos (by simpa using hn), ints_append]; rfl] at a2
      simp (disch := as_aux_lemma => first | omega | simp only [hDs] <;> omega | simp [isCell]) [hRs, takeMarks, resA, resAll, resOne, Value.cells, body319, t1, t2, t5, t11, t12, show ((i : Int) < m) by omega, aX, binA_rem (show w ≠ 0 by omega), binA_quo (show w ≠ 0 by omega), q1, q2', q3, q4', q5, q6, q7, hn, show wr .i64 1 = 1 by decide, slitA, fillA, setRange, zeros, a1, e5]
      refine ih (i + 1) sv' (by omega) (fun z hz => by rw [a3 z hz, get_push_old (by omega), hb z hz]) (by rw [a4]; simp; omega) a2 ?_ ?_ ?_ ?_ ?_
      all_goals simp [t1, t2, t11]
    · simp (disch := as_aux_lemma => first | omega | simp only [hDs] <;> omega | simp [isCell]) [hRs, takeMarks, resA, resAll, resOne, Value.cells, body319, t1, t2, t5, t11, t12, show ((i : Int) < m) by omega, aX, binA_rem (show w ≠ 0 by omega), binA_quo (show w ≠ 0 by omega), q1, q2', q3, q4', q5, q6, q7, hn, e5]
      refine ih (i + 1) sv (by omega) hb hNA (by rw [nearI, hnr, if_neg (by simpa using hn), List.append_nil]; exact hacc) ?_ ?_ ?_ ?_ ?_
      all_goals simp [t1, t2, t5, t11]
theorem w319 {w h s c : Int} {sl : Value} {m : Nat} (hw : 1 ≤ w ∧ w ≤ 24) (hc : 0 ≤ c ∧ c < 1000) (hm : m < 1000) (hl : lenV sl = some (.int .i64 m)) (hg : g ≤ A.n)
    (hV : ∀ A' sv, Ext' A A' → AccS A.n A' 1 (ints (nearI w c m)) sv → V sv A') : WF AP KL g 319 [gridV w h s sl, .int .i64 c] A V := by
  rw [WF_body (show KL 319 = none from rfl) (show AP 319 = some F319 from rfl)]
  obtain ⟨B, hB⟩ : ∃ B, B = A.push (.cells [.int .i64 w, .int .i64 h, .int .i64 s, sl] false) := ⟨_, rfl⟩
  have eB : Ext' A B := by rw [hB]; exact Ext'.push _ _
  have nB : B.n = A.n + 1 := by rw [hB]; rfl
  have b2 : B.get A.n = some (.cells [.int .i64 w, .int .i64 h, .int .i64 s, sl] false) := by rw [hB]; exact get_push_new
  simp (disch := as_aux_lemma => first | omega | simp only [hDs] <;> omega | simp [isCell]) [hRs, takeMarks, resA, resAll, resOne, Value.cells, F319, gridV, ← hB, b2, hl]
  refine loop319 (A0 := B) (N := B.n) (X2 := A.n) (m := m) (c := c) (w := w) (h := h) (s := s) hw hc hm b2 (by omega) (by omega) (fun T' A' sv hb hNA hacc t5 => ?_) m 0 _ (by omega) (fun _ _ => rfl) (Nat.le_refl _) AccS.nil ?_ ?_ ?_ ?_ ?_
  · simp (disch := as_aux_lemma => first | omega | simp only [hDs] <;> omega | simp [isCell]) [hRs, takeMarks, resA, resAll, resOne, Value.cells, t5]
    exact hV A' sv ⟨by omega, fun z hz => by rw [hb z (by omega), eB.2 z hz]⟩ (hacc.weaken (by omega))
  all_goals simp
end
end Go.Ab.Grid
set_option maxRecDepth 100000
namespace Go.Ab.Grid
open Go Go.Ab
def body313b : ACode := (.seq
 (.seq
 (.ops [
oM 47 8,
oP 48 (.len (.t 47)),
oC 49 .gtr 48 0])
 (.cond (.t 49)
 .skip
 (.exit 2)))
 (.block 3
 (.seq
 (.ops [
oM 50 8,
oP 51 (.idxS (.t 50) (oK 0) 1),
oL 52 51,
oM 11 52])
 (.seq
 (.ops [
oM 53 8,
oP 54 (.reslice (.t 53) (some (oK 1)) none 1),
oM 8 54])
 (.seq
 (.ops [
oD 55 3 4,
oM 56 11,
oA 57 319 [.t 55, .t 56] false,
oP 58 (.len (.t 57)),
oP 59 (.move (oK 0))])
 (.block 4
 (.loop
 (.seq
 (.ops [
oB 60 .lss 59 58])
 (.seq
 (.cond (.t 60)
 .skip
 (.exit 4))
 (.seq
 (.block 5
 (.seq
 (.ops [
oI 61 57 59 1,
oL 62 61,
oM 13 62])
 (.seq
 (.ops [
oF 63 3 3,
oL 64 63,
oM 65 13,
oI 66 64 65 2,
oF 67 66 0,
oL 68 67,
oM 69 2,
oB 70 .lss 68 69,
oM 71 70,
oN 72 71 true 7,
oN 73 71 true 13,
oQ 74 71 true (.idxS (.t 72) (.t 73) 1),
oQ 75 71 true (.load (.t 74) none),
oQ 76 71 true (.not (.t 75)),
oP 77 (.pick (.t 71) (.t 76) (.k (.bool false)))])
 (.cond (.t 77)
 (.seq
 (.ops [
oM 78 7,
oM 79 13,
oI 80 78 79 1,
⟨none, none, [], .store (.t 80) (.k (.bool true)) 1⟩])
 (.ops [
oM 81 8,
oM 82 13,
oP 83 (.slit 1 1 [.int .i64 0] [(0, .t 82)]),
oP 84 (.append (.t 81) (.t 83) 1 8),
oM 8 84]))
 .skip))))
 (.ops [
oC 85 .add 59 1,
oM 59 85])))))))))))
theorem take_setB {l : List Bool} {d : Nat} (h : d < l.length) : List.take d (bools l) ++ .bool true :: List.drop (d + 1) (bools l) = bools (l.set d true) := by
  have e : bools (l.set d true) = (bools l).set d (.bool true) := by simp [bools, List.map_set]
  rw [e, List.set_eq_take_append_cons_drop, if_pos (by simpa using h)]
theorem zeros_bools {n : Nat} : zeros n [.bool false] = bools (List.replicate n false) := by
  unfold zeros bools
  apply List.ext_getElem (by simp)
  intro i h1 h2
  simp [Nat.mod_one]
theorem makeSb_ok {n : Nat} {A : Hp} (hn : n < 1000000) : makeSA 1 1 [.bool false] (.int .i64 n) (.int .i64 n) A = some (rowS1 A.n n, A.push (.cells (bools (List.replicate n false)) false)) := by
  unfold makeSA
  simp only
  rw [if_pos ⟨by omega, by omega, by unfold room; omega, by unfold room; omega⟩, zeros_bools]
  rfl
structure WetH (A0 : Hp) (N OB : Nat) (A : Hp) (out : List Bool) (q : List Nat) (sq : Value) : Prop where
  b : ∀ z, z < N → A.get z = A0.get z
  n : N ≤ A.n
  oN : N ≤ OB ∧ OB < A.n
  o : A.get OB = some (.cells (bools out) false)
  q : QS N A q sq
  d : ∀ z, blkOf sq = some z → z ≠ OB
theorem WetH.ext {A0 A A' : Hp} {N OB : Nat} {out : List Bool} {q : List Nat} {sq : Value} (h : WetH A0 N OB A out q sq) (e : Ext' A A') : WetH A0 N OB A' out q sq :=
  ⟨fun z hz => by rw [e.2 z (by have := h.n; omega), h.b z hz], Nat.le_trans h.n e.1, ⟨h.oN.1, Nat.lt_of_lt_of_le h.oN.2 e.1⟩, e.get h.o, h.q.mono fun x _ hx => e.2 x hx, h.d⟩
theorem WetH.flag {g : Nat} {A0 A : Hp} {N OB d : Nat} {out : List Bool} {q : List Nat} {sq : Value} (h : WetH A0 N OB A out q sq) (hg : g ≤ N) (hq : q.length < 1000000) :
    ∃ A' sv', appendA g ((A.set OB (some (.cells (bools (out.set d true)) false))).push (.cells [.int .i64 (d : Int)] false)) 1 8 sq (.slice (some ⟨A.n, 0, some 1⟩) 1 1) = some (sv', A') ∧ WetH A0 N OB A' (out.set d true) (q ++ [d]) sv' ∧
      A.n ≤ A'.n ∧ (∀ z, z < A.n → z ≠ OB → blkOf sq ≠ some z → A'.get z = A.get z) ∧ (∀ z, blkOf sv' = some z → A.n ≤ z) := by
  obtain ⟨A1, h1⟩ : ∃ A1, A1 = (A.set OB (some (.cells (bools (out.set d true)) false))).push (.cells [.int .i64 (d : Int)] false) := ⟨_, rfl⟩
  rw [← h1]
  have n1 : A1.n = A.n + 1 := by rw [h1]; simp
  have hn := h.n
  have hoN := h.oN
  have old : ∀ z, z < A.n → z ≠ OB → A1.get z = A.get z := fun z hz hne => by rw [h1, get_push_old (by simpa using hz), get_set_ne hoN.2 hne]
  have hy : A1.get A.n = some (.cells [.int .i64 (d : Int)] false) := by rw [h1, get_push_eq (by simp)]
  have ho : A1.get OB = some (.cells (bools (out.set d true)) false) := by rw [h1, get_push_old (by simpa using hoN.2), get_set_same h.o]
  have hq1 : QS N A1 q sq := h.q.mono fun x hx hxn => old x hxn (h.d x hx)
  obtain ⟨A', a1, a2, a3, a4⟩ := hq1.push hg (by omega) hy hq
  refine ⟨A', _, a1, ⟨fun z hz => ?_, by omega, ⟨hoN.1, by omega⟩, ?_, a2, fun z hz => ?_⟩, by omega, fun z hz hne hb => ?_, fun z hz => ?_⟩
  · rw [a3 z (by omega) (fun hb => by have := (h.q.blk hb).1; omega), old z (by omega) (by omega), h.b z hz]
  · rw [a3 OB (by omega) (fun hb => h.d OB hb rfl)]; exact ho
  · cases hz; omega
  · rw [a3 z (by omega) hb, old z hz hne]
  · cases hz; omega
theorem wet_ht {w h : Int} {m c : Nat} {zs : List Int} {sea : List Nat} : (sPar false none w h m zs sea).ht c = gi zs (c * 2) := by simp [sPar, upN]
theorem storeOne {g : Nat} {A : Hp} {OB d : Nat} {out : List Bool} (hg : g ≤ OB) (hd : d < out.length) : storeB (some (.cells (bools out) false)) g A OB d [.bool true] 1 = some (undef, A.set OB (some (.cells (bools (out.set d true)) false))) := by
  have := storeB_cells (A := A) (g := g) (k := OB) (o := d) (size := 1) (cs := bools out) (vs := [.bool true]) rfl hg (by rw [bools_length]; omega) rfl
  rw [this, ← take_setB hd]
  simp [setRange]
structure WetC (g : Nat) (A0 : Hp) (N X3 : Nat) (w h s lv : Int) (m n : Nat) (zs cs : List Int) (sl sv0 : Value) : Prop where
  m60 : m ≤ 60
  n6 : n < 1000000
  hw : 1 ≤ w ∧ w ≤ 5
  hh : 1 ≤ h ∧ h ≤ 5
  hE : gridE w h s m zs = 0
  sea : ∀ c, c ∈ seaN cs → c < m
  pos : ∀ i, i < n → 0 ≤ gi cs i
  hlv : -1000000000 ≤ lv ∧ lv ≤ 1000000000
  hN : A0.n = N
  hg : g ≤ N
  hX : A0.get X3 = some (.cells [.int .i64 w, .int .i64 h, .int .i64 s, sl] false)
  rsl : RdS A0 2 m (ints zs) sl
  rsv : RdS A0 1 n (ints cs) sv0
section
variable {g : Nat} {rd : Option Nat} {T : List Value} {D : List Nat} {A : Hp} {Q : Ex → St → Prop} {V : Value → Hp → Prop}
variable {A0 : Hp} {N X3 OB : Nat} {w h s lv : Int} {m n : Nat} {zs cs : List Int} {sl sv0 : Value}
theorem seaN_get (hl : cs.length = n) {i : Nat} (hi : i < n) : (seaN cs).take (i + 1) = (seaN cs).take i ++ [(gi cs i).toNat] ∧ (gi cs i).toNat ∈ seaN cs := by
  have hl' : i < (seaN cs).length := by simp [seaN, hl, hi]
  have e : (seaN cs)[i] = (gi cs i).toNat := by simp [seaN, gi, List.getD, hl, hi]
  refine ⟨?_, ?_⟩
  · rw [List.take_add_one, List.getElem?_eq_getElem hl', e]; rfl
  · rw [← e]; exact List.getElem_mem _
theorem loop313a (hc : WetC g A0 N X3 w h s lv m n zs cs sl sv0)
    (hQ : ∀ T' A' out q sq, WetH A0 N OB A' out q sq → WetI (sPar false none w h m zs (seaN cs)) lv out q none (seaN cs) → dryN out + q.length ≤ m → tget T' 2 = .int .i64 lv → tget T' 3 = .pointer (some ⟨X3, 0, none⟩) → tget T' 7 = rowS1 OB m → tget T' 8 = sq → Q (.exit 0) ⟨T', D, A'⟩) :
    ∀ (k i : Nat) {T : List Value} {A : Hp} {out : List Bool} {q : List Nat} (sq : Value), i + k = n → WetH A0 N OB A out q sq → WetI (sPar false none w h m zs (seaN cs)) lv out q none ((seaN cs).take i) → dryN out + q.length ≤ m →
      tget T 2 = .int .i64 lv → tget T 3 = .pointer (some ⟨X3, 0, none⟩) → tget T 7 = rowS1 OB m → tget T 8 = sq → tget T 18 = sv0 → tget T 19 = .int .i64 n → tget T 20 = .int .i64 i → W AP KL g rd (.loop body313a) ⟨T, D, A⟩ Q := by
  intro k
  have hm60 := hc.m60
  have hn6 := hc.n6
  have hN := hc.hN
  have hcl : cs.length = n := by have := hc.rsv.1; simpa using this
  have hzl : zs.length = m * 2 := by have := hc.rsl.1; simpa using this
  have hX3 := Hp.lt_of_get hc.hX
  induction k with
  | zero =>
    intro i T A out q sq hi hH hI hK t2 t3 t7 t8 t18 t19 t20
    have : i = n := by omega
    subst this
    rw [W_loop]
    simp (disch := as_aux_lemma => first | omega | simp only [hDs] <;> omega | simp [isCell]) [hRs, takeMarks, resA, resAll, resOne, Value.cells, body313a, t19, t20]
    refine hQ _ _ out q sq hH ?_ hK (by simp [t2]) (by simp [t3]) (by simp [t7]) (by simp [t8])
    rw [List.take_of_length_le (by simp [seaN, hcl])] at hI
    exact hI
  | succ k ih =>
    intro i T A out q sq hi hH hI hK t2 t3 t7 t8 t18 t19 t20
    have hin : i < n := by omega
    have e5 : wr .i64 ((i : Int) + 1) = ((i + 1 : Nat) : Int) := by rw [wrId (by omega) (by omega)]; simp
    obtain ⟨s1, s2⟩ := seaN_get hcl hin
    obtain ⟨c, hcc⟩ : ∃ c : Nat, c = (gi cs i).toNat := ⟨_, rfl⟩
    rw [← hcc] at s1 s2
    have hcm := hc.sea c s2
    have hpos := hc.pos i hin
    have hci : gi cs i = (c : Int) := by omega
    have hol := hI.len
    have hol' : out.length = m := hol
    obtain ⟨xb, xc, xr, hsv, hxb⟩ := (hc.rsv.keepB (A' := A) fun z hz => hH.b z (by have := hc.rsv.blk_lt hz; omega)).at hin
    obtain ⟨gb, gc, gr, hsl, hgb⟩ := (hc.rsl.keepB (A' := A) fun z hz => hH.b z (by have := hc.rsl.blk_lt hz; omega)).at hcm
    have aX : A.get X3 = some (.cells [.int .i64 w, .int .i64 h, .int .i64 s, sl] false) := by rw [hH.b _ (by omega)]; exact hc.hX
    rw [hsl] at aX
    have t18' := t18.trans hsv
    have hrow : rowS1 OB m = .slice (some ⟨OB, 0, some 1⟩) m m := rfl
    rw [hrow] at t7
    have rng := (gridE_parts hc.hE).2.2.2 c hcm
    have hoB := hH.o
    have hoN := hH.oN
    have hgN := hc.hg
    have hnx : ∀ {out' : List Bool} {q' : List Nat} {A' : Hp} {T' : List Value} (sq' : Value), WetH A0 N OB A' out' q' sq' → WetI (sPar false none w h m zs (seaN cs)) lv out' q' none ((seaN cs).take i) → dryN out' + q'.length ≤ m → (gi zs (c * 2) < lv → gQ out' c = true) →
        tget T' 2 = .int .i64 lv → tget T' 3 = .pointer (some ⟨X3, 0, none⟩) → tget T' 7 = rowS1 OB m → tget T' 8 = sq' → tget T' 18 = sv0 → tget T' 19 = .int .i64 n → tget T' 20 = .int .i64 ((i + 1 : Nat) : Int) → W AP KL g rd (.loop body313a) ⟨T', D, A'⟩ Q := by
      intro out' q' A' T' sq' a1 a2 a3 a4 b2 b3 b7 b8 b18 b19 b20
      refine ih (i + 1) sq' (by omega) a1 ?_ a3 b2 b3 b7 b8 b18 b19 b20
      rw [s1]
      exact a2.seaOne (by rw [wet_ht]; exact a4)
    rw [W_loop]
    by_cases hlo : gi zs (c * 2) < lv
    · cases hg : gQ out c
      · have hdn := dryN_set (out := out) (d := c) (by omega) hg
        obtain ⟨A', sv', a1, a2, a3, a4, a5⟩ := hH.flag (g := g) (d := c) hgN (by omega)
        have st1 := storeOne (g := g) (A := A) (OB := OB) (out := out) (d := c) (by omega) (by omega)
        simp (disch := as_aux_lemma => first | omega | simp only [hDs] <;> omega | simp [isCell]) [hRs, takeMarks, resA, resAll, resOne, Value.cells, body313a, t2, t3, t7, t8, t18', t19, t20, show ((i : Int) < n) by omega, hin, idxSA_ok, hxb, ints_get (show i < cs.length by omega), hci, aX, hgb, hcm, ints_get (show c * 2 < zs.length by omega), hlo, hoB, gQ_get (show c < out.length by omega), hg, st1, setRange, slitA, fillA, zeros, a1, e5, hol', bools_length]
        refine hnx sv' a2 (hI.flag hcm ?_ (.base s2)) (by rw [List.length_append]; simp; omega) (fun _ => by rw [gQ_set (by omega), if_pos rfl]) ?_ ?_ ?_ ?_ ?_ ?_ ?_
        · rw [wet_ht]; omega
        all_goals simp [t2, t3, t7, hrow, t18, t19]
      · simp (disch := as_aux_lemma => first | omega | simp only [hDs] <;> omega | simp [isCell]) [hRs, takeMarks, resA, resAll, resOne, Value.cells, body313a, t2, t3, t7, t8, t18', t19, t20, show ((i : Int) < n) by omega, hin, idxSA_ok, hxb, ints_get (show i < cs.length by omega), hci, aX, hgb, hcm, ints_get (show c * 2 < zs.length by omega), hlo, hoB, gQ_get (show c < out.length by omega), hg, e5]
        refine hnx sq hH hI hK (fun _ => hg) ?_ ?_ ?_ ?_ ?_ ?_ ?_
        all_goals simp [t2, t3, t7, t8, hrow, t18, t19]
    · simp (disch := as_aux_lemma => first | omega | simp only [hDs] <;> omega | simp [isCell]) [hRs, takeMarks, resA, resAll, resOne, Value.cells, body313a, t2, t3, t7, t8, t18', t19, t20, show ((i : Int) < n) by omega, hin, idxSA_ok, hxb, ints_get (show i < cs.length by omega), hci, aX, hgb, hcm, ints_get (show c * 2 < zs.length by omega), hlo, e5]
      refine hnx sq hH hI hK (fun h => absurd h hlo) ?_ ?_ ?_ ?_ ?_ ?_ ?_
      all_goals simp [t2, t3, t7, t8, hrow, t18, t19]
theorem loop313c {c K : Nat} {nv : Value} (hc : WetC g A0 N X3 w h s lv m n zs cs sl sv0) (hcm : c < m)
    (hQ : ∀ T' A' out q sq, WetH A0 N OB A' out q sq → WetI (sPar false none w h m zs (seaN cs)) lv out q (some (c, (nearI w c m).map Int.toNat)) (seaN cs) → dryN out + q.length ≤ K → tget T' 2 = .int .i64 lv → tget T' 3 = .pointer (some ⟨X3, 0, none⟩) → tget T' 7 = rowS1 OB m → tget T' 8 = sq → Q (.exit 4) ⟨T', D, A'⟩) :
    ∀ (k i : Nat) {T : List Value} {A : Hp} {out : List Bool} {q : List Nat} (sq : Value), i + k = (nearI w c m).length → WetH A0 N OB A out q sq → WetI (sPar false none w h m zs (seaN cs)) lv out q (some (c, ((nearI w c m).map Int.toNat).take i)) (seaN cs) → dryN out + q.length ≤ K → gQ out c = true → K ≤ 1000 →
      RdS A 1 (nearI w c m).length (ints (nearI w c m)) nv → (∀ z, blkOf nv = some z → z ≠ OB ∧ blkOf sq ≠ some z) →
      tget T 2 = .int .i64 lv → tget T 3 = .pointer (some ⟨X3, 0, none⟩) → tget T 7 = rowS1 OB m → tget T 8 = sq → tget T 57 = nv → tget T 58 = .int .i64 (nearI w c m).length → tget T 59 = .int .i64 i → W AP KL g rd (.loop body313c) ⟨T, D, A⟩ Q := by
  intro k
  obtain ⟨L, hL⟩ : ∃ L, L = nearI w c m := ⟨_, rfl⟩
  have hLm : ∀ x, x ∈ L → ∃ d : Nat, d < m ∧ x = (d : Int) ∧ nrC w c d = true := fun x hx => nearI_mem.1 (by rw [← hL]; exact hx)
  rw [← hL] at hQ ⊢
  have hm60 := hc.m60
  have hLl : L.length ≤ m := by rw [hL]; exact nearI_le
  have hN := hc.hN
  have hzl : zs.length = m * 2 := by have := hc.rsl.1; simpa using this
  have hX3 := Hp.lt_of_get hc.hX
  induction k with
  | zero =>
    intro i T A out q sq hi hH hI hK hgc hK1 hnv hnd t2 t3 t7 t8 t57 t58 t59
    have : i = L.length := by omega
    subst this
    rw [W_loop]
    simp (disch := as_aux_lemma => first | omega | simp only [hDs] <;> omega | simp [isCell]) [hRs, takeMarks, resA, resAll, resOne, Value.cells, body313c, t58, t59]
    refine hQ _ _ out q sq hH ?_ hK (by simp [t2]) (by simp [t3]) (by simp [t7]) (by simp [t8])
    rw [List.take_of_length_le (by simp)] at hI
    exact hI
  | succ k ih =>
    intro i T A out q sq hi hH hI hK hgc hK1 hnv hnd t2 t3 t7 t8 t57 t58 t59
    have hin : i < L.length := by omega
    have e5 : wr .i64 ((i : Int) + 1) = ((i + 1 : Nat) : Int) := by rw [wrId (by omega) (by omega)]; simp
    have hgi : gi L i = L[i] := by simp [gi, List.getD, hin]
    obtain ⟨d, hdm, hdi, hdn⟩ := hLm (gi L i) (by rw [hgi]; exact List.getElem_mem _)
    have s1 : (L.map Int.toNat).take (i + 1) = (L.map Int.toNat).take i ++ [d] := by
      rw [List.take_add_one, List.getElem?_eq_getElem (by simpa using hin), List.getElem_map, ← hgi, hdi]; rfl
    have hol' : out.length = m := hI.len
    obtain ⟨xb, xc, xr, hsv, hxb⟩ := hnv.at hin
    obtain ⟨gb, gc, gr, hsl, hgb⟩ := (hc.rsl.keepB (A' := A) fun z hz => hH.b z (by have := hc.rsl.blk_lt hz; omega)).at hdm
    have aX : A.get X3 = some (.cells [.int .i64 w, .int .i64 h, .int .i64 s, sl] false) := by rw [hH.b _ (by omega)]; exact hc.hX
    rw [hsl] at aX
    have t57' := t57.trans hsv
    have hrow : rowS1 OB m = .slice (some ⟨OB, 0, some 1⟩) m m := rfl
    rw [hrow] at t7
    have rng := (gridE_parts hc.hE).2.2.2 d hdm
    have hmw := (gridE_parts hc.hE).2.2.1
    have hoB := hH.o
    have hoN := hH.oN
    have hgN := hc.hg
    have hnx : ∀ {out' : List Bool} {q' : List Nat} {A' : Hp} {T' : List Value} (sq' : Value), WetH A0 N OB A' out' q' sq' → WetI (sPar false none w h m zs (seaN cs)) lv out' q' (some (c, (L.map Int.toNat).take i)) (seaN cs) → dryN out' + q'.length ≤ K → (gi zs (d * 2) < lv → gQ out' d = true) → gQ out' c = true →
        RdS A' 1 L.length (ints L) nv → (∀ z, blkOf nv = some z → z ≠ OB ∧ blkOf sq' ≠ some z) →
        tget T' 2 = .int .i64 lv → tget T' 3 = .pointer (some ⟨X3, 0, none⟩) → tget T' 7 = rowS1 OB m → tget T' 8 = sq' → tget T' 57 = nv → tget T' 58 = .int .i64 L.length → tget T' 59 = .int .i64 ((i + 1 : Nat) : Int) → W AP KL g rd (.loop body313c) ⟨T', D, A'⟩ Q := by
      intro out' q' A' T' sq' a1 a2 a3 a4 a5 a6 a7 b2 b3 b7 b8 b57 b58 b59
      refine ih (i + 1) sq' (by omega) a1 ?_ a3 a5 hK1 a6 a7 b2 b3 b7 b8 b57 b58 b59
      rw [s1]
      exact a2.doneOne (by rw [wet_ht]; exact a4)
    rw [W_loop]
    by_cases hlo : gi zs (d * 2) < lv
    · cases hg : gQ out d
      · have hdn' := dryN_set (out := out) (d := d) (by omega) hg
        obtain ⟨A', sv', a1, a2, a3, a4, a5⟩ := hH.flag (g := g) (d := d) hgN (by omega)
        have st1 := storeOne (g := g) (A := A) (OB := OB) (out := out) (d := d) (by omega) (by omega)
        obtain ⟨v, hv, hder⟩ := hI.snd c hcm hgc
        have hnb : d ∈ (sPar false none w h m zs (seaN cs)).nb c := by
          have := (nr_nbrs (d := d) hc.hw hc.hh (by omega) (by omega)).1 hdn
          show d ∈ (nbrs w h c).map Int.toNat
          exact List.mem_map.2 ⟨(d : Int), this, by simp⟩
        simp (disch := as_aux_lemma => first | omega | simp only [hDs] <;> omega | simp [isCell]) [hRs, takeMarks, resA, resAll, resOne, Value.cells, body313c, t2, t3, t7, t8, t57', t58, t59, show ((i : Int) < L.length) by omega, hin, idxSA_ok, hxb, ints_get hin, hdi, aX, hgb, hdm, ints_get (show d * 2 < zs.length by omega), hlo, hoB, gQ_get (show d < out.length by omega), hg, st1, setRange, slitA, fillA, zeros, a1, e5, hol', bools_length]
        refine hnx sv' a2 (hI.flag hdm ?_ (hder.step hnb)) (by rw [List.length_append]; simp; omega) (fun _ => by rw [gQ_set (by omega), if_pos rfl]) (by rw [gQ_set (by omega)]; split; rfl; exact hgc) (hnv.keepB fun z hz => a4 z (hnv.blk_lt hz) (hnd z hz).1 (hnd z hz).2) (fun z hz => ⟨(hnd z hz).1, fun hb => by have := a5 z hb; have := hnv.blk_lt hz; omega⟩) ?_ ?_ ?_ ?_ ?_ ?_ ?_
        · rw [wet_ht]; omega
        all_goals simp [t2, t3, t7, hrow, t57, t58]
      · simp (disch := as_aux_lemma => first | omega | simp only [hDs] <;> omega | simp [isCell]) [hRs, takeMarks, resA, resAll, resOne, Value.cells, body313c, t2, t3, t7, t8, t57', t58, t59, show ((i : Int) < L.length) by omega, hin, idxSA_ok, hxb, ints_get hin, hdi, aX, hgb, hdm, ints_get (show d * 2 < zs.length by omega), hlo, hoB, gQ_get (show d < out.length by omega), hg, e5]
        refine hnx sq hH hI hK (fun _ => hg) hgc hnv hnd ?_ ?_ ?_ ?_ ?_ ?_ ?_
        all_goals simp [t2, t3, t7, t8, hrow, t57, t58]
    · simp (disch := as_aux_lemma => first | omega | simp only [hDs] <;> omega | simp [isCell]) [hRs, takeMarks, resA, resAll, resOne, Value.cells, body313c, t2, t3, t7, t8, t57', t58, t59, show ((i : Int) < L.length) by omega, hin, idxSA_ok, hxb, ints_get hin, hdi, aX, hgb, hdm, ints_get (show d * 2 < zs.length by omega), hlo, e5]
      refine hnx sq hH hI hK (fun h => absurd h hlo) hgc hnv hnd ?_ ?_ ?_ ?_ ?_ ?_ ?_
      all_goals simp [t2, t3, t7, t8, hrow, t57, t58]
end
end Go.Ab.Grid
set_option maxRecDepth 100000
namespace Go.Ab.Grid
open Go Go.Ab
section
variable {g : Nat} {rd : Option Nat} {T : List Value} {D : List Nat} {A : Hp} {Q : Ex → St → Prop} {V : Value → Hp → Prop}
variable {A0 : Hp} {N X3 OB : Nat} {w h s lv : Int} {m n : Nat} {zs cs : List Int} {sl sv0 : Value}
theorem loop313b (hc : WetC g A0 N X3 w h s lv m n zs cs sl sv0)
    (hQ : ∀ T' A' out sq, WetH A0 N OB A' out [] sq → WetI (sPar false none w h m zs (seaN cs)) lv out [] none (seaN cs) → tget T' 7 = rowS1 OB m → Q (.exit 2) ⟨T', D, A'⟩) :
    ∀ (K : Nat) {T : List Value} {A : Hp} {out : List Bool} {q : List Nat} (sq : Value), WetH A0 N OB A out q sq → WetI (sPar false none w h m zs (seaN cs)) lv out q none (seaN cs) → dryN out + q.length ≤ K → K ≤ m →
      tget T 2 = .int .i64 lv → tget T 3 = .pointer (some ⟨X3, 0, none⟩) → tget T 7 = rowS1 OB m → tget T 8 = sq → W AP KL g rd (.loop body313b) ⟨T, D, A⟩ Q := by
  have hm60 := hc.m60
  have hN := hc.hN
  have hgN := hc.hg
  have hX3 := Hp.lt_of_get hc.hX
  have fin : ∀ {T : List Value} {A : Hp} {out : List Bool} (sq : Value), WetH A0 N OB A out [] sq → WetI (sPar false none w h m zs (seaN cs)) lv out [] none (seaN cs) → tget T 7 = rowS1 OB m → tget T 8 = sq → W AP KL g rd (.loop body313b) ⟨T, D, A⟩ Q := by
    intro T A out sq hH hI t7 t8
    have hql := hH.q.len
    rw [W_loop]
    simp (disch := as_aux_lemma => first | omega | simp only [hDs] <;> omega | simp [isCell]) [hRs, takeMarks, resA, resAll, resOne, Value.cells, body313b, t8, hql]
    refine hQ _ _ out sq hH hI (by simp [t7])
  intro K
  induction K with
  | zero =>
    intro T A out q sq hH hI hK _ t2 t3 t7 t8
    have : q = [] := List.eq_nil_of_length_eq_zero (by omega)
    subst this
    exact fin sq hH hI t7 t8
  | succ K ih =>
    intro T A out q sq hH hI hK hKm t2 t3 t7 t8
    rcases q with _ | ⟨c, q'⟩
    · exact fin sq hH hI t7 t8
    · have hql := hH.q.len
      rw [List.length_cons] at hql hK
      obtain ⟨b, off, cc, cells, hsq, hb, hcell, hq'⟩ := hH.q.head
      obtain ⟨hcm, hgc⟩ := hI.qin c (List.mem_cons_self ..)
      have hcm' : c < m := hcm
      have hmw := (gridE_parts hc.hE).2.2.1
      have aX : A.get X3 = some (.cells [.int .i64 w, .int .i64 h, .int .i64 s, sl] false) := by rw [hH.b _ (by omega)]; exact hc.hX
      have hsl' := hc.rsl.len
      have t8' := t8.trans hsq
      have hbd := hH.d b (by rw [hsq]; rfl)
      have hbN := hH.q.blk (z := b) (by rw [hsq]; rfl)
      have rs : ∀ T : List Value, resliceA 1 (.slice (some ⟨b, off, some 1⟩) (q'.length + 1) cc) (boundA T 0 (some (.k (.int .i64 1)))) (fun m => boundA T m none) = some (.slice (some ⟨b, off + 1, some 1⟩) q'.length (Max.max (q'.length + 1) cc - 1)) := fun T => resliceA_from (T := T) (b := b) (o := off) (esz := 1) (n := q'.length + 1) (c := cc) (i := 1) (by decide) (by omega)
      have hlen : lenV (.slice (some ⟨b, off, some 1⟩) (q'.length + 1) cc) = some (.int .i64 ((q'.length : Int) + 1)) := by simp
      rw [W_loop]
      simp (disch := as_aux_lemma => first | omega | simp only [hDs] <;> omega | simp [isCell]) [hRs, takeMarks, resA, resAll, resOne, Value.cells, body313b, t2, t3, t8', hlen, show (0 : Int) < (q'.length : Int) + 1 by omega, idxSA_ok, show (0 : Int) < ((q'.length + 1 : Nat) : Int) by omega, hb, hcell, rs, aX]
      have hH1 : WetH A0 N OB A out q' (.slice (some ⟨b, off + 1, some 1⟩) q'.length (Max.max (q'.length + 1) cc - 1)) := ⟨hH.b, hH.n, hH.oN, hH.o, hq', fun z hz => by cases hz; exact hbd⟩
      refine w319 (w := w) (h := h) (s := s) (sl := sl) (m := m) ⟨hc.hw.1, by have := hc.hw; omega⟩ ⟨by omega, by omega⟩ (by omega) hsl' (by have := hH.n; omega) fun A1 nv e1 hacc => ?_
      have hH2 := hH1.ext e1
      have hnv : RdS A1 1 (nearI w c m).length (ints (nearI w c m)) nv := hacc.rd (by simp) (by decide)
      have hnl := hnv.len
      have hnd : ∀ z, blkOf nv = some z → z ≠ OB ∧ blkOf (.slice (some ⟨b, off + 1, some 1⟩) q'.length (Max.max (q'.length + 1) cc - 1)) ≠ some z := fun z hz => by
        have h1 := (hacc.blk_ge hz).1
        have h2 := hH.oN
        refine ⟨by omega, fun h3 => ?_⟩
        cases h3
        omega
      simp (disch := as_aux_lemma => first | omega | simp only [hDs] <;> omega | simp [isCell]) [hRs, takeMarks, resA, resAll, resOne, Value.cells, hnl]
      refine loop313c (c := c) (K := K) (nv := nv) hc hcm' (fun T' A' out' q'' sq'' a1 a2 a3 b2 b3 b7 b8 => ?_) (nearI w c m).length 0 _ (by omega) hH2 hI.take (by omega) hgc (by omega) hnv hnd ?_ ?_ ?_ ?_ ?_ ?_ ?_
      · simp (disch := as_aux_lemma => first | omega | simp only [hDs] <;> omega | simp [isCell]) [hRs, takeMarks, resA, resAll, resOne, Value.cells]
        refine ih sq'' a1 (a2.shut fun d hd => ?_) a3 (by omega) ?_ ?_ ?_ ?_
        · obtain ⟨x, hx, hxd⟩ := List.mem_map.1 hd
          have hx' : x = (d : Int) := by
            have := nbrs_back (w := w) (h := h) (c := c) (l := [x]) hc.hw.1 (fun y hy => by rw [List.mem_singleton] at hy; rw [hy]; exact hx)
            simp at this
            omega
          have hdm : d < m := (sPar_line (up := false) (bar := none) hc.hE hm60 hc.sea).ok.nb c hcm' d hd
          refine List.mem_map.2 ⟨x, nearI_mem.2 ⟨d, hdm, hx', ?_⟩, hxd⟩
          exact (nr_nbrs hc.hw hc.hh (by omega) (by omega)).2 (by rw [← hx']; exact hx)
        all_goals simp [b2, b3, b7, b8]
      all_goals simp [t2, t3, t7]
theorem w313 (hm60 : m ≤ 60) (hn : n < 1000000) (hw : 1 ≤ w ∧ w ≤ 5) (hh : 1 ≤ h ∧ h ≤ 5) (hE : gridE w h s m zs = 0) (hsea : ∀ c, c ∈ seaN cs → c < m) (hpos : ∀ i, i < n → 0 ≤ gi cs i) (hlv : -1000000000 ≤ lv ∧ lv ≤ 1000000000)
    (hz : RdS A 1 n (ints cs) sv0) (hsl : RdS A 2 m (ints zs) sl) (hg : g ≤ A.n)
    (hV : ∀ A' out sv, Ext' A A' → RdS A' 1 m (bools out) sv → (∀ o, SFin (sPar false none w h m zs (seaN cs)) o → ∀ c, c < m → gQ out c = decide (gi o c < lv)) → (∀ b, blkOf sv = some b → A.n ≤ b) → V sv A') : WF AP KL g 313 [gridV w h s sl, sv0, .int .i64 lv] A V := by
  rw [WF_body (show KL 313 = none from rfl) (show AP 313 = some F313 from rfl)]
  obtain ⟨B, hB⟩ : ∃ B, B = A.push (.cells [.int .i64 w, .int .i64 h, .int .i64 s, sl] false) := ⟨_, rfl⟩
  have eB : Ext' A B := by rw [hB]; exact Ext'.push _ _
  have nB : B.n = A.n + 1 := by rw [hB]; rfl
  have b3 : B.get A.n = some (.cells [.int .i64 w, .int .i64 h, .int .i64 s, sl] false) := by rw [hB]; exact get_push_new
  have hl := hsl.len
  have hlz := hz.len
  have hc : WetC g B B.n A.n w h s lv m n zs cs sl sv0 := ⟨hm60, hn, hw, hh, hE, hsea, hpos, hlv, rfl, by omega, b3, eB.rdS hsl, eB.rdS hz⟩
  simp (disch := as_aux_lemma => first | omega | simp only [hDs] <;> omega | simp [isCell]) [hRs, takeMarks, resA, resAll, resOne, Value.cells, F313, gridV, ← hB, b3, hl, hlz, makeSb_ok (n := m) (A := B) (by omega)]
  have hH : WetH B B.n B.n (B.push (.cells (bools (List.replicate m false)) false)) (List.replicate m false) [] (.slice none 0 0) :=
    ⟨fun z hz => get_push_old hz, by simp, ⟨Nat.le_refl _, by simp⟩, get_push_new, .inl ⟨rfl, rfl⟩, fun z hz => by cases hz⟩
  refine loop313a (OB := B.n) hc (fun T' A' out q sq a1 a2 a3 b2 b3' b7 b8 => ?_) n 0 (.slice none 0 0) (by omega) hH WetI.start (by rw [dryN_rep]; simp) ?_ ?_ ?_ ?_ ?_ ?_ ?_
  · simp (disch := as_aux_lemma => first | omega | simp only [hDs] <;> omega | simp [isCell]) [hRs, takeMarks, resA, resAll, resOne, Value.cells]
    refine loop313b (OB := B.n) hc (fun T2 A2 out2 sq2 c1 c2 c7 => ?_) m sq a1 a2 a3 (Nat.le_refl _) ?_ ?_ ?_ ?_
    · simp (disch := as_aux_lemma => first | omega | simp only [hDs] <;> omega | simp [isCell]) [hRs, takeMarks, resA, resAll, resOne, Value.cells, c7]
      refine hV A2 out2 _ ⟨by have := c1.n; omega, fun z hz => by rw [c1.b z (by omega), eB.2 z hz]⟩ ⟨by simpa [sPar] using c2.len, .inr ⟨B.n, m, false, rfl, c1.o⟩⟩ (fun o ho c hcm => ?_) (fun b hb => by cases hb; omega)
      exact c2.fin (sPar_line (up := false) (bar := none) hE hm60 hsea).ok ho (by omega) hcm
    all_goals simp [b2, b3', b7, b8]
  all_goals simp
theorem w315 {c : Nat} {o : List Int} (hm60 : m ≤ 60) (hn : n < 1000000) (hw : 1 ≤ w ∧ w ≤ 5) (hh : 1 ≤ h ∧ h ≤ 5) (hE : gridE w h s m zs = 0) (hsea : ∀ c, c ∈ seaN cs → c < m) (hpos : ∀ i, i < n → 0 ≤ gi cs i) (hlv : -900000000 ≤ lv ∧ lv ≤ 900000000)
    (hz : RdS A 1 n (ints cs) sv0) (hsl : RdS A 2 m (ints zs) sl) (hg : g ≤ A.n) (hcm : c < m) (ho : SFin (sPar false none w h m zs (seaN cs)) o) (hlo : gi o c = lv)
    (hV : ∀ A', Ext' A A' → V (.bool true) A') : WF AP KL g 315 [gridV w h s sl, sv0, .int .i64 c, .int .i64 lv] A V := by
  rw [WF_body (show KL 315 = none from rfl) (show AP 315 = some F315 from rfl)]
  obtain ⟨B, hB⟩ : ∃ B, B = A.push (.cells [.int .i64 w, .int .i64 h, .int .i64 s, sl] false) := ⟨_, rfl⟩
  have eB : Ext' A B := by rw [hB]; exact Ext'.push _ _
  have nB : B.n = A.n + 1 := by rw [hB]; rfl
  have b3 : B.get A.n = some (.cells [.int .i64 w, .int .i64 h, .int .i64 s, sl] false) := by rw [hB]; exact get_push_new
  have e5 : wr .i64 (lv + 1) = lv + 1 := wrId (by omega) (by omega)
  simp (disch := as_aux_lemma => first | omega | simp only [hDs] <;> omega | simp [isCell]) [hRs, takeMarks, resA, resAll, resOne, Value.cells, F315, gridV, ← hB, b3]
  refine w313 (s := s) hm60 hn hw hh hE hsea hpos (by omega) (eB.rdS hz) (eB.rdS hsl) (by omega) fun A1 out sv e1 r1 h1 _ => ?_
  have n1 := e1.1
  have l1 : out.length = m := by have := r1.1; simpa using this
  obtain ⟨xb, xc, xr, rfl, hxb⟩ := r1.at hcm
  have q1 : gQ out c = false := by rw [h1 o ho c hcm, hlo]; simp
  simp (disch := as_aux_lemma => first | omega | simp only [hDs] <;> omega | simp [isCell]) [hRs, takeMarks, resA, resAll, resOne, Value.cells, idxSA_ok, hcm, hxb, gQ_get (show c < out.length by omega), q1, e1.get b3, e5]
  refine w313 (s := s) hm60 hn hw hh hE hsea hpos (by omega) ((eB.trans e1).rdS hz) ((eB.trans e1).rdS hsl) (by omega) fun A2 out2 sv2 e2 r2 h2 _ => ?_
  have l2 : out2.length = m := by have := r2.1; simpa using this
  obtain ⟨yb, yc, yr, rfl, hyb⟩ := r2.at hcm
  have q2 : gQ out2 c = true := by rw [h2 o ho c hcm, hlo]; simp; omega
  simp (disch := as_aux_lemma => first | omega | simp only [hDs] <;> omega | simp [isCell]) [hRs, takeMarks, resA, resAll, resOne, Value.cells, idxSA_ok, hcm, hyb, gQ_get (show c < out2.length by omega), q2]
  exact hV _ ((eB.trans e1).trans e2)
end
end Go.Ab.Grid
