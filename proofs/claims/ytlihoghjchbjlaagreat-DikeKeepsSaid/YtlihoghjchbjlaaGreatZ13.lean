/- Heaps of cells with sills: put and take. -/
import Derived.Test.YtlihoghjchbjlaaGreatZ12
import Derived.Test.YtlihoghjchbjlaaGreatZ10
import Derived.DataShut
import Derived.Test.YtlihoghjchbjlaaGreatZ11
set_option linter.unusedSimpArgs false
set_option linter.unusedVariables false
set_option linter.unusedSectionVars false
namespace Go.Ab.Dike
open Go Go.Ab
def FSep (A : Hp) (cells : List Value) (sv : Value) (j : Nat) (f : FT) : Prop :=
  ∃ a b, cellAt cells (j * 4) = some a ∧ cellAt cells (j * 4 + 1) = some b ∧ cellAt cells (j * 4 + 2) = some (.int .i64 f.may) ∧ cellAt cells (j * 4 + 3) = some (.int .i64 f.must) ∧ RdS A 2 f.cn (ints f.cz) a ∧ RdS A 2 f.sn (ints f.sz) b ∧
    (∀ z, blkOf a = some z → blkOf sv ≠ some z) ∧ (∀ z, blkOf b = some z → blkOf sv ≠ some z)
theorem FSep.at {A : Hp} {cells : List Value} {sv : Value} {j : Nat} {f : FT} (h : FSep A cells sv j f) : FateAt A cells j f := by
  obtain ⟨a, b, h1, h2, h3, h4, h5, h6, _⟩ := h
  exact ⟨a, b, part4 h1 h2 h3 h4, h1, h2, h3, h4, h5, h6⟩
theorem _root_.Go.Ab.RdS.keepB {A A' : Hp} {k n : Nat} {cs : List Value} {sv : Value} (h : RdS A k n cs sv) (hA : ∀ z, blkOf sv = some z → A'.get z = A.get z) : RdS A' k n cs sv := by
  obtain ⟨h0, h | ⟨b, c, ro, rfl, h2⟩⟩ := h
  · exact ⟨h0, .inl h⟩
  · exact ⟨h0, .inr ⟨b, c, ro, rfl, by rw [hA b rfl]; exact h2⟩⟩
theorem _root_.Go.Ab.RdS.blk_lt {A : Hp} {k n : Nat} {cs : List Value} {sv : Value} (h : RdS A k n cs sv) {z : Nat} (hz : blkOf sv = some z) : z < A.n := by
  obtain ⟨h0, ⟨rfl, _⟩ | ⟨b, c, ro, rfl, h2⟩⟩ := h
  · cases hz
  · cases hz; exact Hp.lt_of_get h2
theorem cellAt_left {cs ds : List Value} {o : Nat} {v : Value} (h : cellAt cs o = some v) : cellAt (cs ++ ds) o = some v := by
  have hl := (List.getElem?_eq_some_iff.1 (show cs[o]? = some v from h)).1
  show (cs ++ ds)[o]? = some v
  rw [List.getElem?_append_left hl]; exact h
theorem cellAt_right {cs ds : List Value} {o n : Nat} {v : Value} (hl : cs.length = n) (h : ds[o]? = some v) : cellAt (cs ++ ds) (n + o) = some v := by
  subst hl
  show (cs ++ ds)[cs.length + o]? = some v
  rw [List.getElem?_append_right (by omega), show cs.length + o - cs.length = o by omega]; exact h
theorem FSep.next {A A' : Hp} {cells new : List Value} {sv sv' : Value} {j : Nat} {f : FT} (h : FSep A cells sv j f) (hA : ∀ z, z < A.n → blkOf sv ≠ some z → A'.get z = A.get z) (hsv : ∀ z, blkOf sv' = some z → A.n ≤ z) : FSep A' (cells ++ new) sv' j f := by
  obtain ⟨a, b, h1, h2, h3, h4, h5, h6, h7, h8⟩ := h
  refine ⟨a, b, cellAt_left h1, cellAt_left h2, cellAt_left h3, cellAt_left h4, h5.keepB fun z hz => hA z (h5.blk_lt hz) (h7 z hz), h6.keepB fun z hz => hA z (h6.blk_lt hz) (h8 z hz), fun z hz h => ?_, fun z hz h => ?_⟩
  · have := hsv z h; have := h5.blk_lt hz; omega
  · have := hsv z h; have := h6.blk_lt hz; omega
section
variable {g : Nat} {rd : Option Nat} {T : List Value} {D : List Nat} {A : Hp} {Q : Ex → St → Prop} {V : Value → Hp → Prop}
end
end Go.Ab.Dike
namespace Go.Ab.Dike
open Go Go.Ab
theorem partA_of {cs : List Value} {o : Nat} {vs : List Value} (h : ∀ (j : Nat) v, vs[j]? = some v → cs[o + j]? = some v) (h0 : 0 < vs.length) : partA cs o (some vs.length) = some (.agg ⟨vs⟩) := by
  have hl : o + vs.length ≤ cs.length := by
    have := h (vs.length - 1) vs[vs.length - 1] (List.getElem?_eq_getElem (by omega))
    have := (List.getElem?_eq_some_iff.1 this).1
    omega
  rw [partA_some hl]
  congr 3
  apply List.ext_getElem?
  intro i
  rw [List.getElem?_take]
  by_cases hi : i < vs.length
  · rw [if_pos hi, List.getElem?_drop, List.getElem?_eq_getElem hi]
    exact h i _ (List.getElem?_eq_getElem hi)
  · rw [if_neg hi, List.getElem?_eq_none (by omega)]
def SSep (A : Hp) (cells : List Value) (sv : Value) (j : Nat) (s : StepT) : Prop :=
  ∃ a, (∀ (o : Nat) v, (stepC a s)[o]? = some v → cells[j * 7 + o]? = some v) ∧ RdS A 1 s.an (ints s.al) a ∧ (∀ z, blkOf a = some z → blkOf sv ≠ some z)
theorem SSep.next {A A' : Hp} {cells new : List Value} {sv sv' : Value} {j : Nat} {s : StepT} (h : SSep A cells sv j s) (hA : ∀ z, z < A.n → blkOf sv ≠ some z → A'.get z = A.get z) (hsv : ∀ z, blkOf sv' = some z → A.n ≤ z) : SSep A' (cells ++ new) sv' j s := by
  obtain ⟨a, h1, h2, h3⟩ := h
  refine ⟨a, fun o v ho => ?_, h2.keepB fun z hz => hA z (h2.blk_lt hz) (h3 z hz), fun z hz h => ?_⟩
  · have := h1 o v ho
    rw [List.getElem?_append_left (List.getElem?_eq_some_iff.1 this).1]; exact this
  · have := hsv z h; have := h2.blk_lt hz; omega
section
variable {g : Nat} {rd : Option Nat} {T : List Value} {D : List Nat} {A : Hp} {Q : Ex → St → Prop} {V : Value → Hp → Prop}
end
end Go.Ab.Dike
namespace Go.Ab
open Go
def kints (k : IntKind) (l : List Int) : List Value := l.map (.int k)
@[simp] theorem kints_length (k : IntKind) (l : List Int) : (kints k l).length = l.length := List.length_map ..
theorem kints_get {k : IntKind} {l : List Int} {o : Nat} (h : o < l.length) : cellAt (kints k l) o = some (.int k (gi l o)) := by simp [kints, cellAt, gi, h]
def allK (k : IntKind) : Ty → Bool
  | .int k' => decide (k' = k)
  | .unit => true
  | .pair a b => allK k a && allK k b
  | _ => false
theorem kints_append {k : IntKind} (a b : List Int) : kints k (a ++ b) = kints k a ++ kints k b := List.map_append ..
theorem sh_k {rows : List (List Value)} {k : IntKind} : ∀ {t : Ty} {cs : List Value}, allK k t = true → Sh rows t cs → ∃ zs : List Int, cs = kints k zs ∧ ∀ z ∈ zs, k.min ≤ z ∧ z ≤ k.max
  | .int k', cs, h, ⟨n, hn, hw⟩ => by
    have e : k' = k := by simpa [allK] using h
    subst e
    exact ⟨[n], hn, fun z hz => by rw [List.mem_singleton] at hz; subst hz; exact (Lit.wf_int_iff k' z).1 hw⟩
  | .unit, cs, _, h => ⟨[], h, fun z hz => by cases hz⟩
  | .pair a b, cs, h, ⟨l, r, h1, h2, h3⟩ => by
    simp only [allK, Bool.and_eq_true] at h
    obtain ⟨za, ea, ba⟩ := sh_k h.1 h2
    obtain ⟨zb, eb, bb⟩ := sh_k h.2 h3
    refine ⟨za ++ zb, by rw [h1, ea, eb, kints_append], fun z hz => ?_⟩
    rcases List.mem_append.1 hz with h' | h'
    · exact ba z h'
    · exact bb z h'
  | .bool, _, h, _ => by simp [allK] at h
  | .str, _, h, _ => by simp [allK] at h
  | .slice _, _, h, _ => by simp [allK] at h
theorem kints_flatMap {k : IntKind} {f : Nat → List Int} {n : Nat} : (List.range n).flatMap (fun i => kints k (f i)) = kints k ((List.range n).flatMap f) := by
  simp only [kints, List.map_flatMap]
theorem sh_slice_k {rows : List (List Value)} {k : IntKind} {e : Ty} {cs : List Value} (he : allK k e = true) (h : Sh rows (.slice e) cs) :
    ∃ (n : Nat) (zs : List Int) (sl : Value), cs = [sl] ∧ RdS (roHp rows) e.size n (kints k zs) sl ∧ n ≤ maxLen ∧ ∀ z ∈ zs, k.min ≤ z ∧ z ≤ k.max := by
  rcases h with rfl | ⟨x, n, q, row, rfl, hn, hrow, hlen, hs, f, rfl, hf⟩
  · exact ⟨0, [], _, rfl, ⟨by simp [kints], .inl ⟨rfl, rfl⟩⟩, Nat.zero_le _, fun z hz => by cases hz⟩
  · obtain ⟨p, hp⟩ := Go.Deep.choose_lt (α := List Int) (p := fun i p => f i = kints k p ∧ ∀ z ∈ p, k.min ≤ z ∧ z ≤ k.max) fun i hi => sh_k he (hf i hi).1
    have e1 : (List.range n).flatMap f = kints k ((List.range n).flatMap p) := by
      rw [← kints_flatMap]
      exact Go.Deep.flatMap_congr_range fun i hi => (hp i hi).1
    refine ⟨n, (List.range n).flatMap p, _, rfl, ⟨by rw [← e1, hlen], .inr ⟨x, q, true, rfl, by rw [roHp_get, hrow, ← e1]; rfl⟩⟩, hn, fun z hz => ?_⟩
    obtain ⟨i, hi, hz⟩ := List.mem_flatMap.1 hz
    exact (hp i (by simpa using hi)).2 z hz
theorem gi_rng {l : List Int} {a b : Int} (h : ∀ z ∈ l, a ≤ z ∧ z ≤ b) (ha : a ≤ 0) (hb : 0 ≤ b) (i : Nat) : a ≤ gi l i ∧ gi l i ≤ b := by
  unfold gi
  rw [List.getD_eq_getElem?_getD]
  rcases Nat.lt_or_ge i l.length with hi | hi
  · rw [List.getElem?_eq_getElem hi]
    exact h _ (List.getElem_mem hi)
  · rw [List.getElem?_eq_none hi]
    exact ⟨ha, hb⟩
theorem sh_int {rows : List (List Value)} {k : IntKind} {cs : List Value} (h : Sh rows (.int k) cs) : ∃ n, cs = [.int k n] ∧ k.min ≤ n ∧ n ≤ k.max := by
  obtain ⟨n, h1, h2⟩ := h
  exact ⟨n, h1, (Lit.wf_int_iff k n).1 h2⟩
end Go.Ab
namespace Go.Ab.Dike
open Go Go.Ab
structure Ch (A : Hp) (X3 X1 : Nat) (k : Int) : Prop where
  next : A.get X3 = some (.cells [.int .i64 k] false)
  k0 : 0 ≤ k
  list : ∃ n zs sl ro, A.get X1 = some (.cells [sl] ro) ∧ RdS A 1 n (kints .u8 zs) sl ∧ n < 9223372036854775808 ∧ (∀ j, 0 ≤ gi zs j ∧ gi zs j ≤ 255) ∧ (∀ z, blkOf sl = some z → z ≠ X3)
  ne : X1 ≠ X3
theorem Ch.but {A A' : Hp} {X3 X1 : Nat} {k k' : Int} (h : Ch A X3 X1 k) (hb : But X3 A A') (hn : A'.get X3 = some (.cells [.int .i64 k'] false)) (hk : 0 ≤ k') : Ch A' X3 X1 k' := by
  obtain ⟨h1, h2, ⟨n, zs, sl, ro, h3, h4, h5, h6, h7⟩, h8⟩ := h
  exact ⟨hn, hk, ⟨n, zs, sl, ro, (hb.2 X1 (Hp.lt_of_get h3) h8).trans h3, h4.keepB fun z hz => hb.2 z (h4.blk_lt hz) (h7 z hz), h5, h6, h7⟩, h8⟩
theorem Ch.ext {A A' : Hp} {X3 X1 : Nat} {k : Int} (h : Ch A X3 X1 k) (he : Ext' A A') : Ch A' X3 X1 k := h.but (But.of_ext he) (he.get h.next) h.k0
def chF (X3 X1 : Nat) : Value := .func (.func 172) ⟨[]⟩ ⟨[.pointer (some ⟨X3, 0, none⟩), .pointer (some ⟨X1, 0, none⟩)]⟩
def wallC (cr st toe m0 m1 m2 wear : Int) (lv wd tr : Value) : List Value := [.int .i16 cr, .int .i16 st, .int .i16 toe, .int .u8 m0, .int .u8 m1, .int .u8 m2, .int .u8 wear, lv, wd, tr]
structure WallIn (A : Hp) (cs : List Value) (n : Nat) : Prop where
  e : ∃ (cr st toe m0 m1 m2 wear : Int) (lv wd tr : Value) (m q : Nat) (xs ys us : List Int), cs = wallC cr st toe m0 m1 m2 wear lv wd tr ∧ (-32768 ≤ cr ∧ cr ≤ 32767) ∧ (-32768 ≤ st ∧ st ≤ 32767) ∧ (-32768 ≤ toe ∧ toe ≤ 32767) ∧ (0 ≤ m0 ∧ m0 ≤ 255) ∧ (0 ≤ m1 ∧ m1 ≤ 255) ∧ (0 ≤ m2 ∧ m2 ≤ 255) ∧ (0 ≤ wear ∧ wear ≤ 255) ∧
    RdS A 1 n (kints .i16 xs) lv ∧ (∀ j, -32768 ≤ gi xs j ∧ gi xs j ≤ 32767) ∧ RdS A 1 m (kints .u8 ys) wd ∧ m < 9223372036854775808 ∧ (∀ j, 0 ≤ gi ys j ∧ gi ys j ≤ 255) ∧ RdS A 1 q (kints .u8 us) tr ∧ q < 9223372036854775808 ∧ (∀ j, 0 ≤ gi us j ∧ gi us j ≤ 255)
structure WallOk (S : Sec) : Prop where
  c : -2000 < S.cl ∧ S.cl ≤ S.ch ∧ S.ch < 2300
  s : -2000 < S.sl ∧ S.sl ≤ S.sh ∧ S.sh < 2300
  t : -2000 < S.toe ∧ S.toe < 2000
  w : 0 ≤ S.wl ∧ S.wl ≤ S.wh ∧ S.wh ≤ 60
def LevOk (n : Nat) (zs : List Int) : Prop := zs.length = n * 2 ∧ ∀ j, j < n → -3000 < gi zs (j * 2) ∧ gi zs (j * 2) ≤ gi zs (j * 2 + 1) ∧ gi zs (j * 2 + 1) < 3300
theorem LevOk.next {n : Nat} {zs : List Int} {lo hi : Int} (h : LevOk n zs) (h1 : -3000 < lo) (h2 : lo ≤ hi) (h3 : hi < 3300) : LevOk (n + 1) (zs ++ [lo, hi]) := by
  obtain ⟨hl, ha⟩ := h
  refine ⟨by simp [hl]; omega, fun j hj => ?_⟩
  have g1 : ∀ o, o < zs.length → gi (zs ++ [lo, hi]) o = gi zs o := fun o ho => by unfold gi; simp [List.getD_eq_getElem?_getD, List.getElem?_append_left ho]
  rcases Nat.lt_or_ge j n with h | h
  · rw [g1 _ (by omega), g1 _ (by omega)]; exact ha j h
  · have : j = n := by omega
    subst this
    have a1 : gi (zs ++ [lo, hi]) (j * 2) = lo := by unfold gi; rw [List.getD_eq_getElem?_getD, List.getElem?_append_right (by omega), show j * 2 - zs.length = 0 by omega]; rfl
    have a2 : gi (zs ++ [lo, hi]) (j * 2 + 1) = hi := by unfold gi; rw [List.getD_eq_getElem?_getD, List.getElem?_append_right (by omega), show j * 2 + 1 - zs.length = 1 by omega]; rfl
    rw [a1, a2]; exact ⟨h1, h2, h3⟩
theorem tmod_rng {a m : Int} (hm : 0 < m) : -m < a.tmod m ∧ a.tmod m < m := ⟨Int.lt_tmod_of_pos a hm, Int.tmod_lt_of_pos a hm⟩
section
variable {g : Nat} {rd : Option Nat} {T : List Value} {D : List Nat} {A : Hp} {Q : Ex → St → Prop} {V : Value → Hp → Prop}
theorem w172 {X3 X1 : Nat} {k lo hi : Int} (hc : Ch A X3 X1 k) (hk : k < 1000000) (hl : -1000000 ≤ lo) (hlh : lo ≤ hi) (hh : hi ≤ 1000000) (hg : g ≤ X3)
    (hV : ∀ A' v, But X3 A A' → Ch A' X3 X1 (k + 1) → lo ≤ v → v ≤ hi → V (.int .i64 v) A') : WF AP KL g 172 [.agg ⟨[.int .i64 lo, .int .i64 hi]⟩, .pointer (some ⟨X3, 0, none⟩), .pointer (some ⟨X1, 0, none⟩)] A V := by
  rw [WF_body (show KL 172 = none from rfl) (show AP 172 = some F172 from rfl)]
  obtain ⟨n, zs, sl, ro, h3, h4, h5, h6, h7⟩ := hc.list
  have hk0 := hc.k0
  have h1 := hc.next
  have hne := hc.ne
  have h1n := Hp.lt_of_get h1
  have h3n := Hp.lt_of_get h3
  have e1 := wrId (n := k + 1) (by omega) (by omega)
  have gs := get_set_same (b := some (.cells [.int .i64 (k + 1)] false)) h1
  have g3 : (A.set X3 (some (.cells [.int .i64 (k + 1)] false))).get X1 = some (.cells [sl] ro) := (get_set_ne h1n hne).trans h3
  have b0 : But X3 A ((A.set X3 (some (.cells [.int .i64 (k + 1)] false))).push (.cells [.int .i64 lo, .int .i64 hi] false)) := ⟨by simp, fun z hz hzX => by rw [get_push_old (by simpa using hz), get_set_ne h1n hzX]⟩
  have hc' : Ch ((A.set X3 (some (.cells [.int .i64 (k + 1)] false))).push (.cells [.int .i64 lo, .int .i64 hi] false)) X3 X1 (k + 1) := hc.but b0 (by rw [get_push_old (by simpa using h1n), gs]) (by omega)
  have hlen := h4.len
  have hzl := h4.1
  rw [kints_length] at hzl
  by_cases hn : n = 0
  · subst hn
    simp (disch := as_aux_lemma => first | omega | simp only [hDs] <;> omega | simp [isCell]) [hRs, takeMarks, resA, resAll, resOne, Value.cells, F172, h1, e1, storeB_cells, setRange, set_push_old, gs, g3, hlen]
    exact hV _ _ b0 hc' (Int.le_refl _) hlh
  · obtain ⟨y, c, ro', rfl, hy⟩ := h4.at (i := 0) (by omega)
    have hyX : y ≠ X3 := h7 y rfl
    have hyn := Hp.lt_of_get hy
    have gy : (A.set X3 (some (.cells [.int .i64 (k + 1)] false))).get y = _ := (get_set_ne h1n hyX).trans hy
    obtain ⟨j, hj⟩ : ∃ j : Nat, (k + 1).tmod n = j := ⟨((k + 1).tmod n).toNat, by have := Int.tmod_nonneg (n : Int) (show 0 ≤ k + 1 by omega); omega⟩
    have hjn : j < n := by
      have := Int.tmod_lt_of_pos (k + 1) (show (0 : Int) < n by omega)
      omega
    have hat : cellAt (kints .u8 zs) j = some (.int .u8 (gi zs j)) := kints_get (by omega)
    obtain ⟨b, hb⟩ : ∃ b, b = gi zs j := ⟨_, rfl⟩
    have hbr := h6 j
    rw [← hb] at hat hbr
    have e2 := wrId (n := b) (by omega) (by omega)
    have e3 := wrId (n := hi - lo) (by omega) (by omega)
    have e4 := wrId (n := hi - lo + 1) (by omega) (by omega)
    have hm0 := Int.tmod_nonneg (hi - lo + 1) hbr.1
    have hm1 := Int.tmod_lt_of_pos b (show 0 < hi - lo + 1 by omega)
    have e5 := wrId (n := lo + b.tmod (hi - lo + 1)) (by omega) (by omega)
    simp (disch := as_aux_lemma => first | omega | simp only [hDs] <;> omega | simp [isCell]) [hRs, takeMarks, resA, resAll, resOne, Value.cells, F172, h1, e1, storeB_cells, setRange, set_push_old, gs, g3, hlen, show ¬ (n : Int) = 0 by omega, hn, binA_rem, hj, idxSA_ok, gy, hat, toIntA, e2, e3, e4, e5, show ¬ hi - lo + 1 = 0 by omega]
    exact hV _ _ b0 hc' (by omega) (by omega)
theorem w141 {a b : Int} (hg : g ≤ A.n) (hV : ∀ A', Ext' A A' → V (.agg ⟨[.int .i64 a, .int .i64 b]⟩) A') : WF AP KL g 141 [.int .i64 a, .int .i64 b] A V := by
  rw [WF_body (show KL 141 = none from rfl) (show AP 141 = some F141 from rfl)]
  simp (disch := as_aux_lemma => first | omega | simp only [hDs] <;> omega | simp [isCell]) [hRs, takeMarks, resA, resAll, resOne, Value.cells, F141, fillA, setRange, storeB_cells, set_push_eq]
  exact hV _ (Ext'.push A _)
theorem w138 {n : Nat} {zs : List Int} {sl : Value} (hsl : RdS A 1 n (kints .u8 zs) sl) (hn : n < 9223372036854775808) (hz : ∀ j, 0 ≤ gi zs j ∧ gi zs j ≤ 255) (hg : g ≤ A.n) (hV : ∀ A' X3 X1, Ext' A A' → Ch A' X3 X1 0 → A.n ≤ X3 → X3 < A'.n → A.n ≤ X1 → V (chF X3 X1) A') : WF AP KL g 138 [sl] A V := by
  rw [WF_body (show KL 138 = none from rfl) (show AP 138 = some F138 from rfl)]
  obtain ⟨p, c, rfl⟩ := hsl.isSlice
  simp (disch := as_aux_lemma => first | omega | simp only [hDs] <;> omega | simp [isCell]) [hRs, takeMarks, resA, resAll, resOne, Value.cells, F138, storeB_cells, setRange, set_push_eq]
  have e : Ext' A ((A.push (.cells [.slice p n c] false)).push (.cells [.int .i64 0] false)) := (Ext'.push A _).trans (Ext'.push _ _)
  refine hV _ (A.n + 1) A.n e ⟨by rw [get_push_eq (by simp)], Int.le_refl _, ⟨n, zs, _, false, by rw [get_push_old (by simp), get_push_new], e.rdS hsl, hn, hz, fun z hz' => ?_⟩, by omega⟩ (by omega) (by simp) (Nat.le_refl _)
  have := hsl.blk_lt hz'; omega
theorem loop137 {A0 : Hp} {X2 n m : Nat} {lv wd : Value} {xs ys : List Int} {row : List Value} {ro : Bool} (hlv : RdS A0 1 n (kints .i16 xs) lv) (hxs : ∀ j, -32768 ≤ gi xs j ∧ gi xs j ≤ 32767) (hwd : RdS A0 1 m (kints .u8 ys) wd) (hm : m < 9223372036854775808) (hys : ∀ j, 0 ≤ gi ys j ∧ gi ys j ≤ 255) (h2 : A0.get X2 = some (.cells row ro)) (h8 : cellAt row 8 = some wd) (hn : n < 100000) (hg : g ≤ A0.n)
    (hend : ∀ T' A' sv zs, KeepT [2, 4, 6] T T' → tget T' 7 = sv → LevOk n zs → AccS A0.n A' 2 (ints zs) sv → Ext' A0 A' → Q (.exit 0) ⟨T', D, A'⟩) (t2 : tget T 2 = .pointer (some ⟨X2, 0, none⟩)) :
    ∀ (k i : Nat) {T1 : List Value} {A : Hp} {sv : Value} {zs : List Int}, i + k = n → KeepT [2, 4, 6] T T1 → tget T1 7 = sv → tget T1 64 = lv → tget T1 65 = .int .i64 n → tget T1 66 = .int .i64 i → LevOk i zs → AccS A0.n A 2 (ints zs) sv → Ext' A0 A → W AP KL g rd (.loop body137) ⟨T1, D, A⟩ Q := by
  have hll := hlv.1
  have hwl := hwd.1
  rw [kints_length] at hll hwl
  intro k
  induction k with
  | zero =>
    intro i T1 A sv zs hik hk t7 t64 t65 t66 hz hacc he
    have : i = n := by omega
    subst this
    rw [W_loop]
    simp (disch := as_aux_lemma => first | omega | simp only [hDs] <;> omega | simp [isCell]) [hRs, takeMarks, resA, resAll, resOne, Value.cells, body137, t65, t66]
    exact hend _ A sv zs (hk.trans (by simp)) (by simp [t7]) hz hacc he
  | succ k ih =>
    intro i T1 A sv zs hik hk t7 t64 t65 t66 hz hacc he
    have u2 := (hk.at 2 rfl).trans t2
    obtain ⟨x, c, ro1, rfl, hx⟩ := (he.rdS hlv).at (i := i) (by omega)
    have h2A := he.get h2
    have hlen := (he.rdS hwd).len
    have hA0 := he.1
    obtain ⟨v, hv⟩ : ∃ v, v = gi xs i := ⟨_, rfl⟩
    have hat : cellAt (kints .i16 xs) i = some (.int .i16 v) := by rw [hv]; exact kints_get (by omega)
    have hvr := hxs i
    rw [← hv] at hvr
    have e1 := wrId (n := v) (by omega) (by omega)
    obtain ⟨lo, hlo⟩ : ∃ lo, lo = v.tmod 3000 := ⟨_, rfl⟩
    have hlr := tmod_rng (a := v) (m := 3000) (by decide)
    rw [← hlo] at hlr
    have e3 := wrId (n := (i : Int) + 1) (by omega) (by omega)
    have next : ∀ (hi : Int) (T3 : List Value) (A1 : Hp), lo ≤ hi → hi < 3300 → Ext' A A1 → ∃ sv' A2, appendA g (A1.push (.cells [.int .i64 lo, .int .i64 hi] false)) 2 16 sv (.slice (some ⟨A1.n, 0, some 2⟩) 1 1) = some (sv', A2) ∧ LevOk (i + 1) (zs ++ [lo, hi]) ∧ AccS A0.n A2 2 (ints (zs ++ [lo, hi])) sv' ∧ Ext' A0 A2 := by
      intro hi T3 A1 h1 h2 eA
      have nA := eA.1
      obtain ⟨sv', A2, ha, hacc', hold, hn2⟩ := AccS.add (g := g) (bytes := 16) (n := i) (ro := false) (new := [.int .i64 lo, .int .i64 hi]) (hacc.mono eA.2) hg (by omega) rfl (by decide) rfl (by rw [ints_length]; exact hz.1) (by unfold room; omega)
      exact ⟨sv', A2, ha, hz.next (by omega) h1 h2, by rw [ints_append]; exact hacc', ⟨by omega, fun z hz' => by rw [hold z hz', eA.2 z (by omega), he.2 z hz']⟩⟩
    rw [W_loop]
    by_cases hm0 : m = 0
    · subst hm0
      simp (disch := as_aux_lemma => first | omega | simp only [hDs] <;> omega | simp [isCell]) [hRs, takeMarks, resA, resAll, resOne, Value.cells, body137, u2, t64, t65, t66, show ((i : Int) < n) by omega, idxSA_ok, hx, hat, toIntA, e1, binA_rem, ← hlo, h2A, h8, hlen]
      refine w141 (by omega) fun A1 eA => ?_
      obtain ⟨sv', A2, ha, hz', hacc', he'⟩ := next lo T1 A1 (Int.le_refl _) (by omega) eA
      simp (disch := as_aux_lemma => first | omega | simp only [hDs] <;> omega | simp [isCell]) [hRs, takeMarks, resA, resAll, resOne, Value.cells, t7, t66, slitA, fillA, setRange, ha, e3]
      exact ih (i + 1) (sv := sv') (by omega) (hk.trans (by simp)) (by simp) (by simp [t64]) (by simp [t65]) (by simp) hz' hacc' he'
    · obtain ⟨j, hj⟩ : ∃ j : Nat, ((i : Int)).tmod m = j := ⟨((i : Int).tmod m).toNat, by have := Int.tmod_nonneg (m : Int) (show (0 : Int) ≤ i by omega); omega⟩
      have hjm : j < m := by
        have := Int.tmod_lt_of_pos (i : Int) (show (0 : Int) < m by omega)
        omega
      obtain ⟨y, c', ro', rfl, hy⟩ := (he.rdS hwd).at (i := j) hjm
      obtain ⟨b, hb⟩ : ∃ b, b = gi ys j := ⟨_, rfl⟩
      have hyat : cellAt (kints .u8 ys) j = some (.int .u8 b) := by rw [hb]; exact kints_get (by omega)
      have hbr := hys j
      rw [← hb] at hbr
      have e2 := wrId (n := b) (by omega) (by omega)
      have e4 := wrId (n := lo + b) (by omega) (by omega)
      simp (disch := as_aux_lemma => first | omega | simp only [hDs] <;> omega | simp [isCell]) [hRs, takeMarks, resA, resAll, resOne, Value.cells, body137, u2, t64, t65, t66, show ((i : Int) < n) by omega, idxSA_ok, hx, hat, toIntA, e1, binA_rem, ← hlo, h2A, h8, hlen, show (0 : Int) < m by omega, show 0 < m by omega, show ¬ (m : Int) = 0 by omega, hm0, hj, hy, hyat, e2, e4]
      refine w141 (by omega) fun A1 eA => ?_
      obtain ⟨sv', A2, ha, hz', hacc', he'⟩ := next (lo + b) T1 A1 (by omega) (by omega) eA
      simp (disch := as_aux_lemma => first | omega | simp only [hDs] <;> omega | simp [isCell]) [hRs, takeMarks, resA, resAll, resOne, Value.cells, t7, t66, slitA, fillA, setRange, ha, e3]
      exact ih (i + 1) (sv := sv') (by omega) (hk.trans (by simp)) (by simp) (by simp [t64]) (by simp [t65]) (by simp) hz' hacc' he'
end
end Go.Ab.Dike
namespace Go.Ab.Dike
open Go Go.Ab
section
variable {g : Nat} {rd : Option Nat} {T : List Value} {D : List Nat} {A : Hp} {Q : Ex → St → Prop} {V : Value → Hp → Prop}
theorem w137 {n : Nat} {cell : Int} {cs : List Value} (hw : WallIn A cs n) (hn : n < 100000) (hg : g ≤ A.n) (hV : ∀ S zs sv A', S.cell = cell → WallOk S → LevOk n zs → Ext' A A' → AccS A.n A' 2 (ints zs) sv → V (.tuple ⟨[.agg ⟨S.cells⟩, sv]⟩) A') :
    WF AP KL g 137 [.agg ⟨cs⟩, .int .i64 cell] A V := by
  obtain ⟨cr, st, toe, m0, m1, m2, wear, lv, wd, tr, m, q, xs, ys, us, rfl, h1, h2, h3, h4, h5, h6, h7, hlv, hxs, hwd, hm, hys, htr, hq, hus⟩ := hw.e
  rw [WF_body (show KL 137 = none from rfl) (show AP 137 = some F137 from rfl)]
  obtain ⟨B, hB⟩ : ∃ B, B = (A.push (.cells (wallC cr st toe m0 m1 m2 wear lv wd tr) false)).push (.cells [.int .i64 0, .int .i64 0, .int .i64 0, .int .i64 0, .int .i64 0, .int .i64 0, .int .i64 0, .int .i64 0] false) := ⟨_, rfl⟩
  have hBn : B.n = A.n + 2 := by rw [hB]; rfl
  have eB : Ext' A B := by rw [hB]; exact (Ext'.push A _).trans (Ext'.push _ _)
  have hX2 : B.get A.n = some (.cells (wallC cr st toe m0 m1 m2 wear lv wd tr) false) := by rw [hB, get_push_old (by simp), get_push_new]
  have hX4 : B.get (A.n + 1) = some (.cells [.int .i64 0, .int .i64 0, .int .i64 0, .int .i64 0, .int .i64 0, .int .i64 0, .int .i64 0, .int .i64 0] false) := by rw [hB, get_push_eq (by simp)]
  have hB' : (A.push (.cells [.int .i16 cr, .int .i16 st, .int .i16 toe, .int .u8 m0, .int .u8 m1, .int .u8 m2, .int .u8 wear, lv, wd, tr] false)).push (.cells [.int .i64 0, .int .i64 0, .int .i64 0, .int .i64 0, .int .i64 0, .int .i64 0, .int .i64 0, .int .i64 0] false) = B := hB.symm
  have hX2' := hX2
  unfold wallC at hX2'
  obtain ⟨c1, hc1⟩ : ∃ c1, c1 = cr.tmod 2000 := ⟨_, rfl⟩
  obtain ⟨s1, hs1⟩ : ∃ s1, s1 = st.tmod 2000 := ⟨_, rfl⟩
  obtain ⟨t1, ht1⟩ : ∃ t1, t1 = toe.tmod 2000 := ⟨_, rfl⟩
  obtain ⟨w1, hw1⟩ : ∃ w1, w1 = wear.tmod 30 := ⟨_, rfl⟩
  obtain ⟨w2, hw2⟩ : ∃ w2, w2 = m2.tmod 30 := ⟨_, rfl⟩
  have r1 := tmod_rng (a := cr) (m := 2000) (by decide)
  have r2 := tmod_rng (a := st) (m := 2000) (by decide)
  have r3 := tmod_rng (a := toe) (m := 2000) (by decide)
  have r4 := tmod_rng (a := wear) (m := 30) (by decide)
  have r5 := tmod_rng (a := m2) (m := 30) (by decide)
  have p4 := Int.tmod_nonneg 30 h7.1
  have p5 := Int.tmod_nonneg 30 h6.1
  rw [← hc1] at r1
  rw [← hs1] at r2
  rw [← ht1] at r3
  rw [← hw1] at r4 p4
  rw [← hw2] at r5 p5
  have e1 := wrId (n := cr) (by omega) (by omega)
  have e2 := wrId (n := st) (by omega) (by omega)
  have e3 := wrId (n := toe) (by omega) (by omega)
  have e4 := wrId (n := m0) (by omega) (by omega)
  have e5 := wrId (n := m1) (by omega) (by omega)
  have e6 := wrId (n := m2) (by omega) (by omega)
  have e7 := wrId (n := wear) (by omega) (by omega)
  have e8 := wrId (n := w1 + w2) (by omega) (by omega)
  have e9 := wrId (n := c1 + m0) (by omega) (by omega)
  have e10 := wrId (n := s1 + m1) (by omega) (by omega)
  simp (disch := as_aux_lemma => first | omega | simp only [hDs] <;> omega | simp [isCell]) [hRs, takeMarks, resA, resAll, resOne, Value.cells, F137, wallC, hB', hX2', toIntA, e1, e2, e3, e4, e5, e6, e7, binA_rem, ← hc1, ← hs1, ← ht1, ← hw1, ← hw2, idxAA_ok, e8]
  refine w141 (by omega) fun A1 ea => ?_
  have na := ea.1
  have hX21 := ea.get hX2'
  have hx2n := Hp.lt_of_get hX21
  have eP := Ext'.push A1 (.cells [.int .i64 cell, .int .i64 0, .int .i64 0, .int .i64 0, .int .i64 0, .int .i64 t1, .int .i64 w1, .int .i64 (w1 + w2)] false)
  simp (disch := as_aux_lemma => first | omega | simp only [hDs] <;> omega | simp [isCell]) [hRs, takeMarks, resA, resAll, resOne, Value.cells, fillA, setRange, storeB_cells, set_push_eq, hX21, toIntA, e1, e4, binA_rem, ← hc1, idxAA_ok, e9]
  refine w141 (by simp; omega) fun A2 eb => ?_
  have nb := eb.1
  have hX22 := (eP.trans eb).get hX21
  have hX6 := eb.get (get_push_new (A := A1) (b := (.cells [.int .i64 cell, .int .i64 0, .int .i64 0, .int .i64 0, .int .i64 0, .int .i64 t1, .int .i64 w1, .int .i64 (w1 + w2)] false)))
  have hx6n := Hp.lt_of_get hX6
  have g22 : ∀ b', (A2.set A1.n b').get A.n = _ := fun b' => (get_set_ne hx6n (by omega)).trans hX22
  simp (disch := as_aux_lemma => first | omega | simp only [hDs] <;> omega | simp [isCell]) [hRs, takeMarks, resA, resAll, resOne, Value.cells, setRange, storeB_cells, hX6, hX22, g22, toIntA, e2, e5, binA_rem, ← hs1, idxAA_ok, e10]
  refine w141 (by simp; omega) fun A3 ec => ?_
  have nc := ec.1
  simp only [Hp.n_set, Hp.n_push] at nb nc
  have hX63 := ec.get (get_set_same (b := some (.cells [.int .i64 cell, .int .i64 c1, .int .i64 (c1 + m0), .int .i64 0, .int .i64 0, .int .i64 t1, .int .i64 w1, .int .i64 (w1 + w2)] false)) hX6)
  have hX23 := ec.get (g22 (some (.cells [.int .i64 cell, .int .i64 c1, .int .i64 (c1 + m0), .int .i64 0, .int .i64 0, .int .i64 t1, .int .i64 w1, .int .i64 (w1 + w2)] false)))
  have hx6n3 := Hp.lt_of_get hX63
  have g23 : ∀ b', (A3.set A1.n b').get A.n = _ := fun b' => (get_set_ne hx6n3 (by omega)).trans hX23
  simp (disch := as_aux_lemma => first | omega | simp only [hDs] <;> omega | simp [isCell]) [hRs, takeMarks, resA, resAll, resOne, Value.cells, setRange, storeB_cells, hX63, g23, hlv.len]
  obtain ⟨A4, hA4⟩ : ∃ A4, A4 = A3.set A1.n (some (.cells [.int .i64 cell, .int .i64 c1, .int .i64 (c1 + m0), .int .i64 s1, .int .i64 (s1 + m1), .int .i64 t1, .int .i64 w1, .int .i64 (w1 + w2)] false)) := ⟨_, rfl⟩
  rw [← hA4]
  have hA4n : A4.n = A3.n := by rw [hA4]; rfl
  have hX64 : A4.get A1.n = some (.cells [.int .i64 cell, .int .i64 c1, .int .i64 (c1 + m0), .int .i64 s1, .int .i64 (s1 + m1), .int .i64 t1, .int .i64 w1, .int .i64 (w1 + w2)] false) := by rw [hA4]; exact get_set_same hX63
  have hX24 : A4.get A.n = some (.cells (wallC cr st toe m0 m1 m2 wear lv wd tr) false) := by rw [hA4]; exact g23 _
  have o4 : ∀ z, z < A1.n → A4.get z = A1.get z := fun z hz => by
    rw [hA4, get_set_ne hx6n3 (by omega), ec.2 z (by simp; omega), get_set_ne hx6n (by omega), eb.2 z (by simp; omega), get_push_old hz]
  have e04 : Ext' A A4 := ⟨by omega, fun z hz => by rw [o4 z (by omega), ea.2 z (by omega), eB.2 z hz]⟩
  have hX44 := (o4 (A.n + 1) (by omega)).trans (ea.get hX4)
  refine loop137 (A0 := A4) (X2 := A.n) (n := n) (m := m) (lv := lv) (wd := wd) (e04.rdS hlv) hxs (e04.rdS hwd) hm hys hX24 rfl hn (by omega) ?_ (T := _) ?_ n 0 (sv := .slice none 0 0) (zs := []) (by omega) (fun _ _ => rfl) (by simp) (by simp) (by simp) (by simp) ⟨rfl, fun j hj => absurd hj (by omega)⟩ AccS.nil (Ext'.refl _)
  · intro T5 A5 sv zs k5 t7 hz hacc he5
    have q4 := k5.at 4 rfl
    have q6 := k5.at 6 rfl
    simp at q4 q6
    have h65 := he5.get hX64
    have h45 := he5.get hX44
    have hx4n := Hp.lt_of_get h45
    have gs : ∀ b', (A5.set (A.n + 1) (some b')).get (A.n + 1) = some b' := fun b' => get_set_same h45
    obtain ⟨p5, q5, r5, rfl⟩ := hacc.isSlice
    have n5 := he5.1
    simp (disch := as_aux_lemma => first | omega | simp only [hDs] <;> omega | simp [isCell]) [hRs, takeMarks, resA, resAll, resOne, Value.cells, q4, q6, t7, h65, h45, storeB_cells, setRange, gs]
    refine hV ⟨cell, c1, c1 + m0, s1, s1 + m1, t1, w1, w1 + w2⟩ zs _ _ rfl ⟨by simp only; omega, by simp only; omega, by simp only; omega, by simp only; omega⟩ hz ⟨by simp; omega, fun z hz' => by rw [get_set_ne hx4n (by omega), he5.2 z (by omega), e04.2 z hz']⟩ ?_
    refine (AccS.keepB hacc fun z hz' => get_set_ne hx4n ?_).weaken (by omega)
    have := (hacc.blk_ge hz').1; omega
  · simp
end
end Go.Ab.Dike
namespace Go.Ab.Dike
open Go Go.Ab
structure HB (k : Nat) (s : HS) : Prop where
  a : -(2000 + 60 * (k : Int)) ≤ s.wc ∧ s.wc ≤ 2300
  b : -(2000 + 60 * (k : Int)) ≤ s.ws ∧ s.ws ≤ 2300
  c : -(2000 + 60 * (k : Int)) ≤ s.sc ∧ s.sc ≤ 2300
  d : -(2000 + 60 * (k : Int)) ≤ s.ss ∧ s.ss ≤ 2300
  may : -1 ≤ s.may ∧ s.may < k
  must : -1 ≤ s.must ∧ s.must < k
structure HStep (S : Sec) (lo hi : Int) (k : Nat) (s s' : HS) : Prop where
  a : s'.wc = if S.toe < hi then s.wc - S.wh else s.wc
  b : s'.ws = if S.toe < hi then s.ws - S.wh else s.ws
  c : s'.sc = if S.toe < lo then s.sc - S.wl else s.sc
  d : s'.ss = if S.toe < lo then s.ss - S.wl else s.ss
  may : s'.may = if s.may < 0 ∧ min s.wc s.ws < hi then (k : Int) else s.may
  must : s'.must = if s.must < 0 ∧ min s.sc s.ss < lo then (k : Int) else s.must
theorem hold_step {S : Sec} {zs : List Int} {k : Nat} (hS : WallOk S) (hk : k ≤ 1000) (h : HB k (holdS S zs k)) : HStep S (gi zs (k * 2)) (gi zs (k * 2 + 1)) k (holdS S zs k) (holdS S zs (k + 1)) := by
  have hw := hS.w
  obtain ⟨a, b, c, d, _, _⟩ := h
  have w1 : wr .i64 ((holdS S zs k).wc - S.wh) = (holdS S zs k).wc - S.wh := wrId (by omega) (by omega)
  have w2 : wr .i64 ((holdS S zs k).ws - S.wh) = (holdS S zs k).ws - S.wh := wrId (by omega) (by omega)
  have w3 : wr .i64 ((holdS S zs k).sc - S.wl) = (holdS S zs k).sc - S.wl := wrId (by omega) (by omega)
  have w4 : wr .i64 ((holdS S zs k).ss - S.wl) = (holdS S zs k).ss - S.wl := wrId (by omega) (by omega)
  have e := holdS_step S zs k
  rw [w1, w2, w3, w4] at e
  rw [e]
  exact ⟨rfl, rfl, rfl, rfl, rfl, rfl⟩
theorem hold_bd {S : Sec} {zs : List Int} (hS : WallOk S) : ∀ k, k ≤ 1000 → HB k (holdS S zs k)
  | 0, _ => by
    have h1 := hS.c
    have h2 := hS.s
    exact ⟨by simp only [holdS]; omega, by simp only [holdS]; omega, by simp only [holdS]; omega, by simp only [holdS]; omega, by simp [holdS], by simp [holdS]⟩
  | k + 1, hk => by
    have ih := hold_bd (zs := zs) hS k (by omega)
    obtain ⟨a, b, c, d, m, u⟩ := hold_step (zs := zs) hS (by omega) ih
    have hw := hS.w
    obtain ⟨a0, b0, c0, d0, m0, u0⟩ := ih
    refine ⟨?_, ?_, ?_, ?_, ?_, ?_⟩
    · rw [a]; split <;> omega
    · rw [b]; split <;> omega
    · rw [c]; split <;> omega
    · rw [d]; split <;> omega
    · rw [m]; split <;> omega
    · rw [u]; split <;> omega
structure Liv (s : HS) (k : Nat) (c h f : Int) : Prop where
  a : s.wc ≤ c ∧ c ≤ s.sc
  b : s.ws ≤ h ∧ h ≤ s.ss
  f0 : -1 ≤ f ∧ f < k
  may : 0 ≤ f → 0 ≤ s.may ∧ s.may ≤ f
  must : 0 ≤ s.must → 0 ≤ f ∧ f ≤ s.must
theorem Liv.next {S : Sec} {lo hi v c h f w : Int} {k : Nat} {s s' : HS} (hl : Liv s k c h f) (hs : HStep S lo hi k s s') (hw : 0 ≤ S.wl ∧ S.wl ≤ S.wh) (hm : -1 ≤ s.may ∧ s.may < k) (hu : -1 ≤ s.must ∧ s.must < k) (hv : lo ≤ v ∧ v ≤ hi) (hw2 : S.wl ≤ w ∧ w ≤ S.wh) :
    Liv s' (k + 1) (if S.toe < v then c - w else c) (if S.toe < v then h - w else h) (if f < 0 ∧ (c < v ∨ h < v) then (k : Int) else f) := by
  obtain ⟨a, b, f0, may, must⟩ := hl
  obtain ⟨ea, eb, ec, ed, em, eu⟩ := hs
  refine ⟨⟨?_, ?_⟩, ⟨?_, ?_⟩, ?_, ?_, ?_⟩
  · rw [ea]; split <;> split <;> omega
  · rw [ec]; split <;> split <;> omega
  · rw [eb]; split <;> split <;> omega
  · rw [ed]; split <;> split <;> omega
  · split <;> omega
  · rw [em]; split <;> split <;> omega
  · rw [eu]; split <;> split <;> omega
theorem nar_may {sm pm a a' hi hi' : Int} {k : Nat} (h : 0 ≤ pm → 0 ≤ sm ∧ sm ≤ pm) (ha : a ≤ a') (hh : hi' ≤ hi) (hm : -1 ≤ sm ∧ sm < k) (hm' : -1 ≤ pm ∧ pm < k) :
    0 ≤ (if pm < 0 ∧ a' < hi' then (k : Int) else pm) → 0 ≤ (if sm < 0 ∧ a < hi then (k : Int) else sm) ∧ (if sm < 0 ∧ a < hi then (k : Int) else sm) ≤ (if pm < 0 ∧ a' < hi' then (k : Int) else pm) := by
  split <;> split <;> omega
structure Nar (s p : HS) (k : Nat) : Prop where
  a : s.wc ≤ p.wc ∧ p.wc ≤ p.sc ∧ p.sc ≤ s.sc
  b : s.ws ≤ p.ws ∧ p.ws ≤ p.ss ∧ p.ss ≤ s.ss
  may : 0 ≤ p.may → 0 ≤ s.may ∧ s.may ≤ p.may
  must : 0 ≤ s.must → 0 ≤ p.must ∧ p.must ≤ s.must
theorem Nar.next {S P : Sec} {lo hi lo' hi' : Int} {k : Nat} {s s' p p' : HS} (hn : Nar s p k) (hs : HStep S lo hi k s s') (hp : HStep P lo' hi' k p p') (ht : P.toe = S.toe) (hw : 0 ≤ S.wl ∧ S.wl ≤ P.wl ∧ P.wl ≤ P.wh ∧ P.wh ≤ S.wh) (hl : lo ≤ lo' ∧ lo' ≤ hi' ∧ hi' ≤ hi)
    (hm : -1 ≤ s.may ∧ s.may < k) (hu : -1 ≤ s.must ∧ s.must < k) (hm' : -1 ≤ p.may ∧ p.may < k) (hu' : -1 ≤ p.must ∧ p.must < k) : Nar s' p' (k + 1) := by
  obtain ⟨a, b, may, must⟩ := hn
  obtain ⟨ea, eb, ec, ed, em, eu⟩ := hs
  obtain ⟨fa, fb, fc, fd, fm, fu⟩ := hp
  rw [ht] at fa fb fc fd
  refine ⟨⟨?_, ?_, ?_⟩, ⟨?_, ?_, ?_⟩, ?_, ?_⟩
  · rw [ea, fa]; split <;> split <;> omega
  · rw [fa, fc]; split <;> split <;> omega
  · rw [ec, fc]; split <;> split <;> omega
  · rw [eb, fb]; split <;> split <;> omega
  · rw [fb, fd]; split <;> split <;> omega
  · rw [ed, fd]; split <;> split <;> omega
  · rw [em, fm]
    exact nar_may may (by omega) hl.2.2 hm hm'
  · rw [eu, fu]
    exact nar_may must (by omega) hl.1 hu' hu
structure Narrower (S P : Sec) (n : Nat) (zs ys : List Int) : Prop where
  c : S.cl ≤ P.cl ∧ P.cl ≤ P.ch ∧ P.ch ≤ S.ch
  s : S.sl ≤ P.sl ∧ P.sl ≤ P.sh ∧ P.sh ≤ S.sh
  w : S.wl ≤ P.wl ∧ P.wl ≤ P.wh ∧ P.wh ≤ S.wh
  t : P.toe = S.toe
  l : ∀ j, j < n → gi zs (j * 2) ≤ gi ys (j * 2) ∧ gi ys (j * 2) ≤ gi ys (j * 2 + 1) ∧ gi ys (j * 2 + 1) ≤ gi zs (j * 2 + 1)
theorem hold_ok {S : Sec} {n : Nat} {zs : List Int} (hS : WallOk S) (hl : LevOk n zs) (hn : n ≤ 1000) : holdE S zs n = 0 := by
  have h1 := hS.c
  have h2 := hS.s
  have h3 := hS.t
  have h4 := hS.w
  have hok : S.ok = true := by simp [Sec.ok, validB]; omega
  have hany : (List.range n).any (fun i => !lvl zs i) = false := by
    rw [Bool.eq_false_iff]
    intro h
    obtain ⟨j, hj, hb⟩ := List.any_eq_true.1 h
    have := hl.2 j (by simpa using hj)
    have hv : lvl zs j = true := by simp [lvl, validB]; omega
    rw [hv] at hb; cases hb
  simp only [holdE, hok, hany]
  simp [show ¬ 1000 < n by omega]
end Go.Ab.Dike
namespace Go.Ab.Dike
open Go Go.Ab
def pA139 : ACode := (.ops [
oM 34 32,
oI 35 30 32 2,
oD 36 35 2,
oP 15 (.alloc [.int .i64 0, .int .i64 0]),
oM 14 34,
oT 15 36 2])
def pB139 : ACode := (.ops [
oM 37 2,
oD 38 15 2,
oP 39 (.call (.t 37) [.t 38] false),
oM 16 39])
def pC139 : ACode := (.seq
 (.ops [
oM 40 11,
oC 41 .lss 40 0,
oM 42 41,
oN 43 42 true 16,
oN 44 42 true 9,
oQ 45 42 true (.bin .gtr (.t 43) (.t 44)),
oN 46 42 true 45,
oN 47 46 false 16,
oN 48 46 false 10,
oQ 49 46 false (.bin .gtr (.t 47) (.t 48)),
oQ 50 42 true (.pick (.t 46) (.k (.bool true)) (.t 49)),
oP 51 (.pick (.t 42) (.t 50) (.k (.bool false)))])
 (.cond (.t 51)
 (.ops [
oM 52 14,
oM 11 52])
 .skip))
def pD139 : ACode := (.seq
 (.ops [
oM 53 16,
oF 54 3 5,
oL 55 54,
oB 56 .gtr 53 55])
 (.cond (.t 56)
 (.seq
 (.ops [
oM 57 2,
oF 58 3 6,
oD 59 58 2,
oP 60 (.call (.t 57) [.t 59] false),
oM 17 60])
 (.ops [
oM 61 9,
oM 62 17,
oB 63 .sub 61 62,
oM 64 10,
oM 65 17,
oB 66 .sub 64 65,
oM 9 63,
oM 10 66]))
 .skip))
def pE139 : ACode := (.ops [
oM 67 12,
oM 68 9,
oP 69 (.slit 1 1 [.int .i64 0] [(0, .t 68)]),
oP 70 (.append (.t 67) (.t 69) 1 8),
oM 71 13,
oM 72 10,
oP 73 (.slit 1 1 [.int .i64 0] [(0, .t 72)]),
oP 74 (.append (.t 71) (.t 73) 1 8),
oM 12 70,
oM 13 74])
theorem body139_eq : body139 = .seq (.ops [oB 33 .lss 32 31]) (.seq (.cond (.t 33) .skip (.exit 0)) (.seq (.block 1 (.seq pA139 (.seq pB139 (.seq pC139 (.seq pD139 pE139))))) (.ops [oC 75 .add 32 1, oM 32 75]))) := rfl
section
variable {g : Nat} {rd : Option Nat} {T : List Value} {D : List Nat} {A : Hp} {Q : Ex → St → Prop} {V : Value → Hp → Prop}
theorem C139_ok {v c h f : Int} {k : Nat} (t9 : tget T 9 = .int .i64 c) (t10 : tget T 10 = .int .i64 h) (t11 : tget T 11 = .int .i64 f) (t14 : tget T 14 = .int .i64 k) (t16 : tget T 16 = .int .i64 v)
    (hQ : ∀ T', KeepT [1, 2, 3, 9, 10, 12, 13, 16, 30, 31, 32] T T' → tget T' 11 = .int .i64 (if f < 0 ∧ (c < v ∨ h < v) then (k : Int) else f) → Q .normal ⟨T', D, A⟩) : W AP KL g rd pC139 ⟨T, D, A⟩ Q := by
  by_cases c1 : f < 0
  · by_cases c2 : c < v
    · simp (disch := as_aux_lemma => first | omega | simp only [hDs] <;> omega | simp [isCell]) [hRs, takeMarks, resA, resAll, resOne, Value.cells, pC139, t9, t10, t11, t14, t16, c1, c2]
      exact hQ _ (by simp) (by simp [c1, c2])
    · by_cases c3 : h < v
      · simp (disch := as_aux_lemma => first | omega | simp only [hDs] <;> omega | simp [isCell]) [hRs, takeMarks, resA, resAll, resOne, Value.cells, pC139, t9, t10, t11, t14, t16, c1, c2, c3]
        exact hQ _ (by simp) (by simp [c1, c3])
      · simp (disch := as_aux_lemma => first | omega | simp only [hDs] <;> omega | simp [isCell]) [hRs, takeMarks, resA, resAll, resOne, Value.cells, pC139, t9, t10, t11, t14, t16, c1, c2, c3]
        exact hQ _ (by simp) (by rw [if_neg (by omega)]; simp [t11])
  · simp (disch := as_aux_lemma => first | omega | simp only [hDs] <;> omega | simp [isCell]) [hRs, takeMarks, resA, resAll, resOne, Value.cells, pC139, t9, t10, t11, t14, t16, c1]
    exact hQ _ (by simp) (by rw [if_neg (by omega)]; simp [t11])
theorem D139_ok {S : Sec} {v c h kk : Int} {X3 X1 XS : Nat} {ro : Bool} (t2 : tget T 2 = chF X3 X1) (t3 : tget T 3 = .pointer (some ⟨XS, 0, none⟩)) (t9 : tget T 9 = .int .i64 c) (t10 : tget T 10 = .int .i64 h) (t16 : tget T 16 = .int .i64 v) (hS : A.get XS = some (.cells S.cells ro)) (hc : Ch A X3 X1 kk) (hk : kk < 1000000) (hw : 0 ≤ S.wl ∧ S.wl ≤ S.wh ∧ S.wh ≤ 60)
    (hcb : -1000000 ≤ c ∧ c ≤ 1000000) (hhb : -1000000 ≤ h ∧ h ≤ 1000000) (hg : g ≤ X3)
    (hQ : ∀ T' A' w kk', KeepT [1, 2, 3, 11, 12, 13, 16, 30, 31, 32] T T' → But X3 A A' → Ch A' X3 X1 kk' → kk' ≤ kk + 1 → S.wl ≤ w → w ≤ S.wh → tget T' 9 = .int .i64 (if S.toe < v then c - w else c) → tget T' 10 = .int .i64 (if S.toe < v then h - w else h) → Q .normal ⟨T', D, A'⟩) : W AP KL g rd pD139 ⟨T, D, A⟩ Q := by
  unfold chF at t2
  unfold Sec.cells at hS
  by_cases c1 : S.toe < v
  · simp (disch := as_aux_lemma => first | omega | simp only [hDs] <;> omega | simp [isCell]) [hRs, takeMarks, resA, resAll, resOne, Value.cells, pD139, t2, t3, t16, hS, c1]
    refine w172 hc hk (by omega) hw.2.1 (by omega) hg fun A' w hb hc' h1 h2 => ?_
    have e1 := wrId (n := c - w) (by omega) (by omega)
    have e2 := wrId (n := h - w) (by omega) (by omega)
    simp (disch := as_aux_lemma => first | omega | simp only [hDs] <;> omega | simp [isCell]) [hRs, takeMarks, resA, resAll, resOne, Value.cells, t9, t10, e1, e2]
    exact hQ _ A' w (kk + 1) (by simp) hb hc' (by omega) h1 h2 (by simp [c1]) (by simp [c1])
  · simp (disch := as_aux_lemma => first | omega | simp only [hDs] <;> omega | simp [isCell]) [hRs, takeMarks, resA, resAll, resOne, Value.cells, pD139, t3, t16, hS, c1]
    exact hQ _ A S.wl kk (by simp) (But.of_ext (Ext'.refl _)) hc (by omega) (Int.le_refl _) hw.2.1 (by simp [c1, t9]) (by simp [c1, t10])
structure Lists (S : Sec) (zs : List Int) (i : Nat) (cL hL : List Int) : Prop where
  lc : cL.length = i + 1
  lh : hL.length = i + 1
  all : ∀ j, j ≤ i → ((holdS S zs j).wc ≤ gi cL j ∧ gi cL j ≤ (holdS S zs j).sc) ∧ ((holdS S zs j).ws ≤ gi hL j ∧ gi hL j ≤ (holdS S zs j).ss)
theorem gi_left {l : List Int} {v : Int} {j : Nat} (h : j < l.length) : gi (l ++ [v]) j = gi l j := by unfold gi; simp [List.getD_eq_getElem?_getD, List.getElem?_append_left h]
theorem gi_last {l : List Int} {v : Int} {j : Nat} (h : j = l.length) : gi (l ++ [v]) j = v := by subst h; unfold gi; simp [List.getD_eq_getElem?_getD]
theorem Lists.next {S : Sec} {zs : List Int} {i : Nat} {cL hL : List Int} {c h f : Int} (hl : Lists S zs i cL hL) (hv : Liv (holdS S zs (i + 1)) (i + 1) c h f) : Lists S zs (i + 1) (cL ++ [c]) (hL ++ [h]) := by
  obtain ⟨l1, l2, ha⟩ := hl
  refine ⟨by simp [l1], by simp [l2], fun j hj => ?_⟩
  rcases Nat.lt_or_ge j (i + 1) with h' | h'
  · rw [gi_left (by omega), gi_left (by omega)]; exact ha j (by omega)
  · have : j = i + 1 := by omega
    subst this
    rw [gi_last (by omega), gi_last (by omega)]; exact ⟨hv.a, hv.b⟩
theorem loop139 {A1 : Hp} {S : Sec} {K0 : Int} (hK0 : K0 ≤ 100000) {X3 X1 XS N n : Nat} {zs : List Int} {sl : Value} {ro : Bool} (hold : ∀ A : Hp, (∀ z, z < N → z ≠ X3 → A.get z = A1.get z) → RdS A 2 n (ints zs) sl ∧ A.get XS = some (.cells S.cells ro)) (hch : ∀ (A : Hp) (kk : Int), N ≤ A.n → (∀ z, z < N → z ≠ X3 → A.get z = A1.get z) → A.get X3 = some (.cells [.int .i64 kk] false) → 0 ≤ kk → Ch A X3 X1 kk)
    (hS : WallOk S) (hl : LevOk n zs) (hn : n ≤ 1000) (hXN : X3 < N) (hgX : g ≤ X3) (hgN : g ≤ N)
    (hend : ∀ T' A' kk c h f cL hL sa sb, tget T' 11 = .int .i64 f → tget T' 12 = sa → tget T' 13 = sb → Ch A' X3 X1 kk → kk ≤ K0 + 2 * n → Liv (holdS S zs n) n c h f → Lists S zs n cL hL → AccS N A' 1 (ints cL) sa → AccS N A' 1 (ints hL) sb → N ≤ A'.n → (∀ z, z < N → z ≠ X3 → A'.get z = A1.get z) → Q (.exit 0) ⟨T', D, A'⟩)
    (t2 : tget T 2 = chF X3 X1) (t3 : tget T 3 = .pointer (some ⟨XS, 0, none⟩)) :
    ∀ (k i : Nat) {T1 : List Value} {A : Hp} {kk c h f : Int} {cL hL : List Int} {sa sb : Value}, i + k = n → KeepT [2, 3] T T1 → tget T1 30 = sl → tget T1 31 = .int .i64 n → tget T1 32 = .int .i64 i → tget T1 9 = .int .i64 c → tget T1 10 = .int .i64 h → tget T1 11 = .int .i64 f → tget T1 12 = sa → tget T1 13 = sb →
      Ch A X3 X1 kk → kk ≤ K0 + 2 * i → Liv (holdS S zs i) i c h f → Lists S zs i cL hL → AccS N A 1 (ints cL) sa → AccS N A 1 (ints hL) sb → (∀ z, blkOf sa = some z → blkOf sb ≠ some z) → N ≤ A.n → (∀ z, z < N → z ≠ X3 → A.get z = A1.get z) → W AP KL g rd (.loop body139) ⟨T1, D, A⟩ Q := by
  intro k
  induction k with
  | zero =>
    intro i T1 A kk c h f cL hL sa sb hik hk t30 t31 t32 t9 t10 t11 t12 t13 hc hkk hliv hlst ha hb hab hN ho
    have : i = n := by omega
    subst this
    rw [W_loop]
    simp (disch := as_aux_lemma => first | omega | simp only [hDs] <;> omega | simp [isCell]) [hRs, takeMarks, resA, resAll, resOne, Value.cells, body139, t31, t32]
    exact hend _ A kk c h f cL hL sa sb (by simp [t11]) (by simp [t12]) (by simp [t13]) hc hkk hliv hlst ha hb hN ho
  | succ k ih =>
    intro i T1 A kk c h f cL hL sa sb hik hk t30 t31 t32 t9 t10 t11 t12 t13 hc hkk hliv hlst ha hb hab hN ho
    have u2 := (hk.at 2 rfl).trans t2
    have u3 := (hk.at 3 rfl).trans t3
    obtain ⟨hsl, hXS⟩ := hold A ho
    obtain ⟨x, cx, rx, rfl, hx⟩ := hsl.at (i := i) (by omega)
    obtain ⟨l1, l2, l3⟩ := hl.2 i (by omega)
    have hll := hl.1
    have hbd := hold_bd (zs := zs) hS i (by omega)
    have hstep := hold_step (zs := zs) hS (by omega) hbd
    have ba := hbd.a
    have bb := hbd.b
    have bc := hbd.c
    have bd := hbd.d
    have la := hliv.a
    have lb := hliv.b
    have e3 := wrId (n := (i : Int) + 1) (by omega) (by omega)
    rw [W_loop]
    simp (disch := as_aux_lemma => first | omega | simp only [hDs] <;> omega | simp [isCell]) [hRs, takeMarks, resA, resAll, resOne, Value.cells, body139_eq, t31, t32, show ((i : Int) < n) by omega]
    simp (disch := as_aux_lemma => first | omega | simp only [hDs] <;> omega | simp [isCell]) [hRs, takeMarks, resA, resAll, resOne, Value.cells, pA139, t30, t32, idxSA_ok, hx, ints_two, storeB_cells, setRange, set_push_eq]
    obtain ⟨lo, hlo⟩ : ∃ lo, lo = gi zs (i * 2) := ⟨_, rfl⟩
    obtain ⟨hi, hhi⟩ : ∃ hi, hi = gi zs (i * 2 + 1) := ⟨_, rfl⟩
    simp only [← hlo, ← hhi] at l1 l2 l3 hstep ⊢
    obtain ⟨B, hB⟩ : ∃ B, B = A.push (.cells [.int .i64 lo, .int .i64 hi] false) := ⟨_, rfl⟩
    rw [← hB]
    have eB : Ext' A B := by rw [hB]; exact Ext'.push A _
    have hBX : B.get A.n = some (.cells [.int .i64 lo, .int .i64 hi] false) := by rw [hB, get_push_new]
    have hu2 := u2
    unfold chF at hu2
    simp (disch := as_aux_lemma => first | omega | simp only [hDs] <;> omega | simp [isCell]) [hRs, takeMarks, resA, resAll, resOne, Value.cells, pB139, hu2, hBX]
    refine w172 (hc.ext eB) (by omega) (by omega) l2 (by omega) hgX fun A2 v b2 hc2 v1 v2 => ?_
    have n2 := b2.1
    have nB := eB.1
    have o2 : ∀ z, z < A.n → z ≠ X3 → A2.get z = A.get z := fun z hz hzX => by rw [b2.2 z (by omega) hzX, eB.2 z hz]
    simp (disch := as_aux_lemma => first | omega | simp only [hDs] <;> omega | simp [isCell]) [hRs, takeMarks, resA, resAll, resOne, Value.cells]
    refine C139_ok (v := v) (c := c) (h := h) (f := f) (k := i) (by simp [t9]) (by simp [t10]) (by simp [t11]) (by simp) (by simp) ?_
    intro T3 k3 f3
    simp only [SeqQ_normal, W_seq]
    obtain ⟨_, hXS2⟩ := hold A2 fun z hz hzX => by rw [o2 z (by omega) hzX]; exact ho z hz hzX
    refine D139_ok (S := S) (v := v) (c := c) (h := h) (X3 := X3) (X1 := X1) (XS := XS) (by rw [k3.at 2 rfl]; simp [u2]) (by rw [k3.at 3 rfl]; simp [u3]) (by rw [k3.at 9 rfl]; simp [t9]) (by rw [k3.at 10 rfl]; simp [t10]) (by rw [k3.at 16 rfl]; simp) hXS2 hc2 (by omega) hS.w (by omega) (by omega) hgX ?_
    intro T4 A4 w kk4 k4 b4 hc4 hk4 w1 w2 q9 q10
    simp only [SeqQ_normal]
    have n4 := b4.1
    have o4 : ∀ z, z < A.n → z ≠ X3 → A4.get z = A.get z := fun z hz hzX => by rw [b4.2 z (by omega) hzX, o2 z hz hzX]
    have hnext := hliv.next hstep ⟨hS.w.1, hS.w.2.1⟩ hbd.may hbd.must ⟨v1, v2⟩ ⟨w1, w2⟩
    obtain ⟨c', hc'⟩ : ∃ c', c' = if S.toe < v then c - w else c := ⟨_, rfl⟩
    obtain ⟨h', hh'⟩ : ∃ h', h' = if S.toe < v then h - w else h := ⟨_, rfl⟩
    rw [← hc'] at q9 hnext
    rw [← hh'] at q10 hnext
    have q11 : tget T4 11 = _ := (k4.at 11 rfl).trans f3
    have q12 : tget T4 12 = sa := by rw [k4.at 12 rfl, k3.at 12 rfl]; simp [t12]
    have q13 : tget T4 13 = sb := by rw [k4.at 13 rfl, k3.at 13 rfl]; simp [t13]
    have q30 : tget T4 30 = tget T1 30 := by rw [k4.at 30 rfl, k3.at 30 rfl]; simp
    have q31 : tget T4 31 = .int .i64 n := by rw [k4.at 31 rfl, k3.at 31 rfl]; simp [t31]
    have q32 : tget T4 32 = .int .i64 i := by rw [k4.at 32 rfl, k3.at 32 rfl]; simp [t32]
    have q2 : tget T4 2 = tget T1 2 := by rw [k4.at 2 rfl, k3.at 2 rfl]; simp
    have q3 : tget T4 3 = tget T1 3 := by rw [k4.at 3 rfl, k3.at 3 rfl]; simp
    have acc4 : ∀ {cs : List Int} {sv : Value}, AccS N A 1 (ints cs) sv → AccS N A4 1 (ints cs) sv := fun h => AccS.keepB h fun z hz => by
      have := h.blk_ge hz
      exact o4 z this.2 (by omega)
    obtain ⟨sa', A5, ea, ha', ka, na, bka⟩ := add_keep (g := g) (bytes := 8) (n := i + 1) (ro := false) (new := [.int .i64 c']) (acc4 ha) hgN (by omega) rfl (by decide) rfl (by rw [ints_length, hlst.lc]; omega) (by unfold room; omega)
    have hb5 : AccS N A5 1 (ints hL) sb := AccS.keepB (acc4 hb) fun z hz => ka z ((acc4 hb).blk_ge hz).2 fun h => hab z h hz
    obtain ⟨sb', A6, eb, hb', kb, nb, bkb⟩ := add_keep (g := g) (bytes := 8) (n := i + 1) (ro := false) (new := [.int .i64 h']) hb5 hgN (by omega) rfl (by decide) rfl (by rw [ints_length, hlst.lh]; omega) (by unfold room; omega)
    have nota : ∀ z, z < N → blkOf sa ≠ some z := fun z hz h => by have := (ha.blk_ge h).1; omega
    have notb : ∀ z, z < N → blkOf sb ≠ some z := fun z hz h => by have := (hb.blk_ge h).1; omega
    have hX34 := hc4.next
    simp (disch := as_aux_lemma => first | omega | simp only [hDs] <;> omega | simp [isCell]) [hRs, takeMarks, resA, resAll, resOne, Value.cells, pE139, q9, q10, q12, q13, q32, slitA, fillA, setRange, ea, eb, e3]
    have ho6 : ∀ z, z < N → z ≠ X3 → A6.get z = A1.get z := fun z hz hzX => by rw [kb z (by omega) (notb z hz), ka z (by omega) (nota z hz), o4 z (by omega) hzX]; exact ho z hz hzX
    have hc6 : Ch A6 X3 X1 kk4 := hch A6 kk4 (by omega) ho6 (by rw [kb X3 (by omega) (notb X3 hXN), ka X3 (by omega) (nota X3 hXN)]; exact hX34) hc4.k0
    refine ih (i + 1) (sa := sa') (sb := sb') (cL := cL ++ [c']) (hL := hL ++ [h']) (by omega) (hk.trans (by simp [q2, q3])) (by simp [q30, t30]) (by simp [q31]) (by simp) (by simp [q9]) (by simp [q10]) (by simp [q11]) (by simp) (by simp) hc6 (by omega) hnext (hlst.next hnext) ?_ (by rw [ints_append]; exact hb') ?_ (by omega) ho6
    · rw [ints_append]
      refine AccS.keepB ha' fun z hz => ?_
      have hz1 := ha'.blk_ge hz
      rw [kb z (by omega) fun h => ?_]
      rw [bka] at hz; cases hz
      have := (hb.blk_ge h).2; omega
    · intro z hz hz'
      have h3 := (ha'.blk_ge hz).2
      rw [bka] at hz; rw [bkb] at hz'
      have h1 := Option.some.inj hz
      have h2 := Option.some.inj hz'
      omega
theorem caps_ch {X3 X1 : Nat} : capsOf (chF X3 X1) = [X3, X1] := rfl
theorem onlyC_but {A A' : Hp} {X3 X1 : Nat} (h : But X3 A A') : OnlyC A (chF X3 X1) A' := fun x hx hno => h.2 x hx fun e => hno (by rw [caps_ch, e]; exact List.mem_cons_self ..)
theorem w139 {S : Sec} {X3 X1 n : Nat} {zs : List Int} {sl : Value} {kk : Int} (hsl : RdS A 2 n (ints zs) sl) (hslX : ∀ z, blkOf sl = some z → z ≠ X3) (hS : WallOk S) (hl : LevOk n zs) (hn : n ≤ 1000) (hc : Ch A X3 X1 kk) (hkk : kk ≤ 10000) (hX : X3 < A.n) (hgX : g ≤ X3)
    (hV : ∀ A' kk' c h f cL hL sa sb, But X3 A A' → Ch A' X3 X1 kk' → kk' ≤ kk + 2 + 2 * n → Liv (holdS S zs n) n c h f → Lists S zs n cL hL → RdS A' 1 (n + 1) (ints cL) sa → RdS A' 1 (n + 1) (ints hL) sb → V (.tuple ⟨[sa, sb, .int .i64 f]⟩) A') :
    WF AP KL g 139 [.agg ⟨S.cells⟩, sl, chF X3 X1] A V := by
  rw [WF_body (show KL 139 = none from rfl) (show AP 139 = some F139 from rfl)]
  have h1 := hS.c
  have h2 := hS.s
  obtain ⟨B, hB⟩ : ∃ B, B = A.push (.cells S.cells false) := ⟨_, rfl⟩
  have hBn : B.n = A.n + 1 := by rw [hB]; rfl
  have eB : Ext' A B := by rw [hB]; exact Ext'.push A _
  have hXS : B.get A.n = some (.cells S.cells false) := by rw [hB, get_push_new]
  have hXS' := hXS
  unfold Sec.cells at hXS'
  have hB' : A.push (.cells [.int .i64 S.cell, .int .i64 S.cl, .int .i64 S.ch, .int .i64 S.sl, .int .i64 S.sh, .int .i64 S.toe, .int .i64 S.wl, .int .i64 S.wh] false) = B := hB.symm
  have hX1A : X1 < A.n := by obtain ⟨_, _, _, _, q, _⟩ := hc.list; exact Hp.lt_of_get q
  have hgA : g ≤ A.n := by omega
  obtain ⟨vf, hvf⟩ : ∃ vf, vf = chF X3 X1 := ⟨_, rfl⟩
  simp (disch := as_aux_lemma => first | omega | simp only [hDs] <;> omega | simp [isCell]) [hRs, takeMarks, resA, resAll, resOne, Value.cells, F139, Sec.cells, hB', hXS', ← hvf]
  rw [hvf]
  refine w172 (hc.ext eB) (by omega) (by omega) h1.2.1 (by omega) hgX fun A1 c b1 hc1 c1 c2 => ⟨onlyC_but b1, ?_⟩
  have n1 := b1.1
  have hXS1 : A1.get A.n = some (.cells S.cells false) := (b1.2 A.n (by omega) (by omega)).trans hXS
  have hXS1' := hXS1
  unfold Sec.cells at hXS1'
  rw [← hvf]
  simp (disch := as_aux_lemma => first | omega | simp only [hDs] <;> omega | simp [isCell]) [hRs, takeMarks, resA, resAll, resOne, Value.cells, hXS1', hvf, chF, apartA, capsOf, show ¬ X3 = A.n by omega, show ¬ X1 = A.n by omega]
  refine w172 hc1 (by omega) (by omega) h2.2.1 (by omega) hgX fun A2 h b2 hc2 d1 d2 => ?_
  have n2 := b2.1
  have b02 : But X3 A A2 := (But.of_ext eB).trans (b1.trans b2)
  have hXS2 : A2.get A.n = some (.cells S.cells false) := (b2.2 A.n (by omega) (by omega)).trans hXS1
  have hlen := hsl.len
  simp (disch := as_aux_lemma => first | omega | simp only [hDs] <;> omega | simp [isCell]) [hRs, takeMarks, resA, resAll, resOne, Value.cells, slitA, fillA, setRange, hlen]
  obtain ⟨A3, hA3⟩ : ∃ A3, A3 = (A2.push (.cells [.int .i64 c] false)).push (.cells [.int .i64 h] false) := ⟨_, rfl⟩
  rw [← hA3]
  have hA3n : A3.n = A2.n + 2 := by rw [hA3]; rfl
  have e23 : Ext' A2 A3 := by rw [hA3]; exact (Ext'.push _ _).trans (Ext'.push _ _)
  have ga : A3.get A2.n = some (.cells [.int .i64 c] false) := by rw [hA3, get_push_old (by simp), get_push_new]
  have gb : A3.get (A2.n + 1) = some (.cells [.int .i64 h] false) := by rw [hA3, get_push_eq (by simp)]
  have hc3 := hc2.ext e23
  have keep : ∀ A' : Hp, (∀ z, z < A2.n → z ≠ X3 → A'.get z = A3.get z) → A2.n ≤ A'.n → But X3 A A' := fun A' h' hn' => ⟨by omega, fun z hz hzX => by rw [h' z (by omega) hzX, e23.2 z (by omega), b02.2 z hz hzX]⟩
  refine loop139 (K0 := kk + 2) (by omega) (A1 := A3) (S := S) (X3 := X3) (X1 := X1) (XS := A.n) (N := A2.n) (n := n) (zs := zs) (sl := sl) (ro := false) ?_ ?_ hS hl hn (by omega) hgX (by omega) ?_ (T := _) ?_ ?_ n 0 (kk := kk + 1 + 1) (c := c) (h := h) (f := -1) (cL := [c]) (hL := [h]) (sa := .slice (some ⟨A2.n, 0, some 1⟩) 1 1) (sb := .slice (some ⟨A2.n + 1, 0, some 1⟩) 1 1) (by omega) (fun _ _ => rfl) (by simp) (by simp) (by simp) (by simp) (by simp) (by simp) (by simp) (by simp) hc3 (by omega) ⟨⟨c1, c2⟩, ⟨d1, d2⟩, by omega, fun h => by omega, fun h => by simp [holdS] at h⟩ ⟨rfl, rfl, fun j hj => ?_⟩
    (.inr ⟨A2.n, 1, rfl, ga, Nat.le_refl _, rfl, by omega⟩) (.inr ⟨A2.n + 1, 1, rfl, gb, by omega, rfl, by omega⟩) (fun z hz hz' => by have q1 := Option.some.inj (show some A2.n = some z from hz); have q2 := Option.some.inj (show some (A2.n + 1) = some z from hz'); omega) (by omega) (fun z _ _ => rfl)
  · intro A' h'
    have hb := keep A' h'
    refine ⟨hsl.keepB fun z hz => ?_, by rw [h' A.n (by omega) (by omega), e23.2 A.n (by omega)]; exact hXS2⟩
    rw [h' z (by have := hsl.blk_lt hz; omega) (hslX z hz), e23.2 z (by have := hsl.blk_lt hz; omega), b02.2 z (hsl.blk_lt hz) (hslX z hz)]
  · intro A' k' hn' h' hx hk'
    exact hc.but (keep A' h' hn') hx hk'
  · intro T' A' k' c' h' f' cL hL sa sb t11 t12 t13 hc' hk' hliv hlst ha hb hN ho
    simp (disch := as_aux_lemma => first | omega | simp only [hDs] <;> omega | simp [isCell]) [hRs, takeMarks, resA, resAll, resOne, Value.cells, t11, t12, t13]
    exact hV A' k' c' h' f' cL hL sa sb (keep A' ho hN) hc' (by omega) hliv hlst (ha.rd (by rw [ints_length, hlst.lc]; omega) (by decide)) (hb.rd (by rw [ints_length, hlst.lh]; omega) (by decide))
  · simp [chF]
  · simp
  · have : j = 0 := by omega
    subst this
    exact ⟨⟨c1, c2⟩, ⟨d1, d2⟩⟩
end
end Go.Ab.Dike
namespace Go.Ab.Dike
open Go Go.Ab
section
variable {g : Nat} {rd : Option Nat} {T : List Value} {D : List Nat} {A : Hp} {Q : Ex → St → Prop} {V : Value → Hp → Prop}
theorem w140 {a b c d : Int} (h1 : c ≤ a) (h2 : b ≤ d) (h3 : a ≤ b) (hV : ∀ A', Ext' A A' → V (.bool true) A') : WF AP KL g 140 [.agg ⟨[.int .i64 a, .int .i64 b]⟩, .agg ⟨[.int .i64 c, .int .i64 d]⟩] A V := by
  rw [WF_body (show KL 140 = none from rfl) (show AP 140 = some F140 from rfl)]
  simp (disch := as_aux_lemma => first | omega | simp only [hDs] <;> omega | simp [isCell]) [hRs, takeMarks, resA, resAll, resOne, Value.cells, F140, h1, h2, h3]
  exact hV _ ((Ext'.push A _).trans (Ext'.push _ _))
end
end Go.Ab.Dike
namespace Go.Ab.Dike
open Go Go.Ab
theorem gi_crL (S : Sec) (zs : List Int) {k : Nat} : ∀ {m : Nat}, k < m → gi (crL S zs m) (k * 2) = (holdS S zs k).wc ∧ gi (crL S zs m) (k * 2 + 1) = (holdS S zs k).sc
  | m + 1, h => by
    have hl := crL_length S zs m
    show gi (crL S zs m ++ [(holdS S zs m).wc, (holdS S zs m).sc]) _ = _ ∧ gi (crL S zs m ++ [(holdS S zs m).wc, (holdS S zs m).sc]) _ = _
    unfold gi
    simp only [List.getD_eq_getElem?_getD, List.getElem?_append]
    rcases Nat.lt_or_ge k m with h' | h'
    · have := gi_crL S zs h'
      unfold gi at this
      simp only [List.getD_eq_getElem?_getD] at this
      rw [if_pos (by omega), if_pos (by omega)]; exact this
    · have : k = m := by omega
      subst this
      rw [if_neg (by omega), if_neg (by omega), show k * 2 - (crL S zs k).length = 0 by omega, show k * 2 + 1 - (crL S zs k).length = 1 by omega]
      exact ⟨rfl, rfl⟩
section
variable {g : Nat} {rd : Option Nat} {T : List Value} {D : List Nat} {A : Hp} {Q : Ex → St → Prop} {V : Value → Hp → Prop}
def NarL (n : Nat) (zs ys : List Int) : Prop := ys.length = n * 2 ∧ ∀ j, j < n → gi zs (j * 2) ≤ gi ys (j * 2) ∧ gi ys (j * 2) ≤ gi ys (j * 2 + 1) ∧ gi ys (j * 2 + 1) ≤ gi zs (j * 2 + 1)
theorem NarL.next {n : Nat} {zs ys : List Int} {a b : Int} (h : NarL n zs ys) (h1 : gi zs (n * 2) ≤ a) (h2 : a ≤ b) (h3 : b ≤ gi zs (n * 2 + 1)) : NarL (n + 1) zs (ys ++ [a, b]) := by
  obtain ⟨hl, ha⟩ := h
  refine ⟨by simp [hl]; omega, fun j hj => ?_⟩
  have g1 : ∀ o, o < ys.length → gi (ys ++ [a, b]) o = gi ys o := fun o ho => by unfold gi; simp [List.getD_eq_getElem?_getD, List.getElem?_append_left ho]
  rcases Nat.lt_or_ge j n with h | h
  · rw [g1 _ (by omega), g1 _ (by omega)]; exact ha j h
  · have : j = n := by omega
    subst this
    have a1 : gi (ys ++ [a, b]) (j * 2) = a := by unfold gi; rw [List.getD_eq_getElem?_getD, List.getElem?_append_right (by omega), show j * 2 - ys.length = 0 by omega]; rfl
    have a2 : gi (ys ++ [a, b]) (j * 2 + 1) = b := by unfold gi; rw [List.getD_eq_getElem?_getD, List.getElem?_append_right (by omega), show j * 2 + 1 - ys.length = 1 by omega]; rfl
    rw [a1, a2]; exact ⟨h1, h2, h3⟩
end
end Go.Ab.Dike
namespace Go.Ab.Dike
open Go Go.Ab
section
variable {g : Nat} {rd : Option Nat} {T : List Value} {D : List Nat} {A : Hp} {Q : Ex → St → Prop} {V : Value → Hp → Prop}
end
end Go.Ab.Dike
namespace Go.Ab.Dike
open Go Go.Ab
structure NarS (S P : Sec) : Prop where
  c : S.cl ≤ P.cl ∧ P.cl ≤ P.ch ∧ P.ch ≤ S.ch
  s : S.sl ≤ P.sl ∧ P.sl ≤ P.sh ∧ P.sh ≤ S.sh
  w : S.wl ≤ P.wl ∧ P.wl ≤ P.wh ∧ P.wh ≤ S.wh
  t : P.toe = S.toe
section
variable {g : Nat} {rd : Option Nat} {T : List Value} {D : List Nat} {A : Hp} {Q : Ex → St → Prop} {V : Value → Hp → Prop}
end
end Go.Ab.Dike
namespace Go.Ab.Dike
open Go Go.Ab
section
variable {g : Nat} {rd : Option Nat} {T : List Value} {D : List Nat} {A : Hp} {Q : Ex → St → Prop} {V : Value → Hp → Prop}
end
end Go.Ab.Dike
namespace Go.Ab.Dike
open Go Go.Ab
section
variable {g : Nat} {A : Hp} {V : Value → Hp → Prop}
end
end Go.Ab.Dike
namespace Go.Ab.Dike
open Go Go.Ab
def tWall : Ty := .pair (.int .i16) (.pair (.int .i16) (.pair (.int .i16) (.pair (.rep 3 (.int .u8)) (.pair (.int .u8) (.pair (.slice (.int .i16)) (.pair (.slice (.int .u8)) (.pair (.slice (.int .u8)) .unit)))))))
theorem sh_wall {rows : List (List Value)} {cs : List Value} (h : Sh rows tWall cs) : ∃ n, mkV tWall cs = .agg ⟨cs⟩ ∧ WallIn (roHp rows) cs n := by
  refine ?_
  obtain ⟨_, _, rfl, h1, ⟨_, _, rfl, h2, ⟨_, _, rfl, h3, ⟨_, _, rfl, ⟨_, _, rfl, a1, ⟨_, _, rfl, a2, ⟨_, _, rfl, a3, rfl⟩⟩⟩, ⟨_, _, rfl, h5, ⟨_, _, rfl, h6, ⟨_, _, rfl, h7, ⟨_, _, rfl, h8, rfl⟩⟩⟩⟩⟩⟩⟩⟩ := h
  obtain ⟨c, rfl, hc⟩ := sh_int h1
  obtain ⟨s, rfl, hs⟩ := sh_int h2
  obtain ⟨t, rfl, ht⟩ := sh_int h3
  obtain ⟨m0, rfl, b0⟩ := sh_int a1
  obtain ⟨m1, rfl, b1⟩ := sh_int a2
  obtain ⟨m2, rfl, b2⟩ := sh_int a3
  obtain ⟨w, rfl, hw⟩ := sh_int h5
  obtain ⟨n, xs, lv, rfl, hlv, hn, hx⟩ := sh_slice_k (k := .i16) (e := .int .i16) rfl h6
  obtain ⟨m, ys, wd, rfl, hwd, hm, hy⟩ := sh_slice_k (k := .u8) (e := .int .u8) rfl h7
  obtain ⟨q, us, tr, rfl, htr, hq, hu⟩ := sh_slice_k (k := .u8) (e := .int .u8) rfl h8
  have e1 : IntKind.i16.min = -32768 := by decide
  have e2 : IntKind.i16.max = 32767 := by decide
  have e3 : IntKind.u8.min = 0 := by decide
  have e4 : IntKind.u8.max = 255 := by decide
  have e5 : maxLen < 9223372036854775808 := by decide
  rw [e1, e2] at hc hs ht
  rw [e3, e4] at b0 b1 b2 hw
  simp only [e1, e2] at hx
  simp only [e3, e4] at hy hu
  exact ⟨n, rfl, ⟨c, s, t, m0, m1, m2, w, lv, wd, tr, m, q, xs, ys, us, rfl, hc, hs, ht, b0, b1, b2, hw, hlv, gi_rng hx (by decide) (by decide), hwd, Nat.lt_of_le_of_lt hm e5, gi_rng hy (by decide) (by decide), htr, Nat.lt_of_le_of_lt hq e5, gi_rng hu (by decide) (by decide)⟩⟩
end Go.Ab.Dike
namespace Go.Ab.Dike
open Go Go.Ab
structure JobT where
  lo : Int
  more : Int
  after : Int
  calm : Bool
  truth : Int
def jobC (j : JobT) : List Value := [.int .u16 j.lo, .int .u16 j.more, .int .u16 j.after, .bool j.calm, .int .u16 j.truth]
def Jobs (A : Hp) (n : Nat) (J : Nat → JobT) (sl : Value) : Prop := ∃ cells, RdS A 5 n cells sl ∧ ∀ i, i < n → partA cells (i * 5) (some 5) = some (.agg ⟨jobC (J i)⟩)
theorem Jobs.ext {A A' : Hp} {n : Nat} {J : Nat → JobT} {sl : Value} (h : Jobs A n J sl) (he : Ext' A A') : Jobs A' n J sl := by
  obtain ⟨cells, h1, h2⟩ := h
  exact ⟨cells, he.rdS h1, h2⟩
theorem Jobs.len {A : Hp} {n : Nat} {J : Nat → JobT} {sl : Value} (h : Jobs A n J sl) : lenV sl = some (.int .i64 n) := by obtain ⟨_, h1, _⟩ := h; exact h1.len
theorem Jobs.at {A : Hp} {n i : Nat} {J : Nat → JobT} {sl : Value} (h : Jobs A n J sl) (hi : i < n) : ∃ x c ro cells, sl = .slice (some ⟨x, 0, some 5⟩) n c ∧ A.get x = some (.cells cells ro) ∧ ∀ j, j < n → partA cells (j * 5) (some 5) = some (.agg ⟨jobC (J j)⟩) := by
  obtain ⟨cells, h1, h2⟩ := h
  obtain ⟨x, c, ro, h3, h4⟩ := h1.at hi
  exact ⟨x, c, ro, cells, h3, h4, h2⟩
def Grow (N : Nat) (A : Hp) (n : Nat) (S : Nat → StepT) (sv : Value) : Prop := ∃ cells, AccS N A 7 cells sv ∧ cells.length = n * 7 ∧ ∀ j, j < n → SSep A cells sv j (S j)
theorem Grow.mono {N : Nat} {A A' : Hp} {n : Nat} {S : Nat → StepT} {sv : Value} (h : Grow N A n S sv) (he : Ext' A A') : Grow N A' n S sv := by
  obtain ⟨cells, h1, h2, h3⟩ := h
  refine ⟨cells, h1.mono he.2, h2, fun j hj => ?_⟩
  obtain ⟨a, p1, p2, p3⟩ := h3 j hj
  exact ⟨a, p1, he.rdS p2, p3⟩
section
variable {g : Nat} {rd : Option Nat} {T : List Value} {D : List Nat} {A : Hp} {Q : Ex → St → Prop} {V : Value → Hp → Prop}
end
end Go.Ab.Dike
namespace Go.Ab.Dike
open Go Go.Ab
section
variable {g : Nat} {rd : Option Nat} {T : List Value} {D : List Nat} {A : Hp} {Q : Ex → St → Prop} {V : Value → Hp → Prop}
end
end Go.Ab.Dike
namespace Go.Ab.Dike
open Go Go.Ab
structure WinOk (ws : List Int) (nw : Nat) : Prop where
  bd : ∀ i, i < nw → 0 ≤ gi ws (i * 2) ∧ gi ws (i * 2) ≤ gi ws (i * 2 + 1) ∧ gi ws (i * 2 + 1) ≤ 1000000000
  ord : ∀ i j, i < j → j < nw → gi ws (i * 2 + 1) < gi ws (j * 2)
theorem WinOk.ww {ws : List Int} {nw : Nat} (h : WinOk ws nw) : ∀ i, i < nw → 0 ≤ gi ws (i * 2) ∧ gi ws (i * 2 + 1) ≤ 1000000000 ∧ gi ws (i * 2) ≤ 1000000000 := fun i hi => by have := h.bd i hi; omega
def WSub (ws : List Int) (nw : Nat) (ws' : List Int) (nw' : Nat) : Prop := ∀ j, j < nw' → ∃ i, i < nw ∧ gi ws (i * 2) = gi ws' (j * 2) ∧ gi ws (i * 2 + 1) = gi ws' (j * 2 + 1)
theorem WSub.refl (ws : List Int) (nw : Nat) : WSub ws nw ws nw := fun j hj => ⟨j, hj, rfl, rfl⟩
section
variable {J : Nat → JobT} {t t' : Nat → Int} {b b' : Int} {ws ws' : List Int} {nw nw' : Nat}
end
end Go.Ab.Dike
namespace Go.Ab.Dike
open Go Go.Ab
def swp (L : List (Int × Int)) (i k : Nat) : List (Int × Int) := (L.set i (L.getD k (0, 0))).set k (L.getD i (0, 0))
theorem swp_length {L : List (Int × Int)} {i k : Nat} : (swp L i k).length = L.length := by simp [swp]
theorem swp_get {L : List (Int × Int)} {i k q : Nat} (hi : i < L.length) (hk : k < L.length) (hq : q < L.length) : (swp L i k).getD q (0, 0) = if q = k then L.getD i (0, 0) else if q = i then L.getD k (0, 0) else L.getD q (0, 0) := by
  unfold swp
  rw [List.getD_eq_getElem?_getD, List.getElem?_set]
  by_cases h1 : k = q
  · subst h1; simp [hk]
  · rw [if_neg h1, if_neg (fun h => h1 h.symm), List.getElem?_set]
    by_cases h2 : i = q
    · subst h2; simp [hi]
    · rw [if_neg h2, if_neg (fun h => h2 h.symm)]; simp [hq]
theorem mem_getD {L : List (Int × Int)} {x : Int × Int} : x ∈ L ↔ ∃ q, q < L.length ∧ L.getD q (0, 0) = x := by
  rw [List.mem_iff_getElem]
  constructor
  · rintro ⟨q, hq, e⟩; exact ⟨q, hq, by simp [hq, e]⟩
  · rintro ⟨q, hq, e⟩; exact ⟨q, hq, by simpa [hq] using e⟩
theorem swp_mem {L : List (Int × Int)} {i k : Nat} (hi : i < L.length) (hk : k < L.length) {x : Int × Int} : x ∈ swp L i k ↔ x ∈ L := by
  rw [mem_getD, mem_getD]
  constructor
  · rintro ⟨q, hq, e⟩
    rw [swp_length] at hq
    rw [swp_get hi hk hq] at e
    split at e
    · exact ⟨i, hi, e⟩
    · split at e
      · exact ⟨k, hk, e⟩
      · exact ⟨q, hq, e⟩
  · rintro ⟨q, hq, e⟩
    by_cases h1 : q = i
    · refine ⟨k, by rw [swp_length]; exact hk, ?_⟩
      rw [swp_get hi hk hk, if_pos rfl, ← h1]; exact e
    · by_cases h2 : q = k
      · refine ⟨i, by rw [swp_length]; exact hi, ?_⟩
        rw [swp_get hi hk hi]
        by_cases h3 : i = k
        · rw [if_pos h3]; rw [h2, ← h3] at e; exact e
        · rw [if_neg h3, if_pos rfl, ← h2]; exact e
      · exact ⟨q, by rw [swp_length]; exact hq, by rw [swp_get hi hk hq, if_neg h2, if_neg h1]; exact e⟩
structure HpS (N : Nat) (A : Hp) (sv : Value) (L : List (Int × Int)) : Prop where
  e : (sv = .slice none 0 0 ∧ L = []) ∨ ∃ b c cs, sv = .slice (some ⟨b, 0, some 2⟩) L.length c ∧ A.get b = some (.cells cs false) ∧ cs.length = c * 2 ∧ L.length ≤ c ∧ N ≤ b ∧ ∀ q, q < L.length → cs[q * 2]? = some (.int .i64 (L.getD q (0, 0)).1) ∧ cs[q * 2 + 1]? = some (.int .i64 (L.getD q (0, 0)).2)
theorem HpS.len {N : Nat} {A : Hp} {sv : Value} {L : List (Int × Int)} (h : HpS N A sv L) : lenV sv = some (.int .i64 L.length) := by
  rcases h.e with ⟨rfl, rfl⟩ | ⟨b, c, cs, rfl, _⟩ <;> rfl
theorem HpS.row {N : Nat} {A : Hp} {sv : Value} {L : List (Int × Int)} (h : HpS N A sv L) (h0 : 0 < L.length) : ∃ b c cs, sv = .slice (some ⟨b, 0, some 2⟩) L.length c ∧ A.get b = some (.cells cs false) ∧ cs.length = c * 2 ∧ L.length ≤ c ∧ N ≤ b ∧ ∀ q, q < L.length → cs[q * 2]? = some (.int .i64 (L.getD q (0, 0)).1) ∧ cs[q * 2 + 1]? = some (.int .i64 (L.getD q (0, 0)).2) := by
  rcases h.e with ⟨_, rfl⟩ | h
  · simp at h0
  · exact h
theorem row_part {cs : List Value} {q : Nat} {a b : Int} (h1 : cs[q * 2]? = some (.int .i64 a)) (h2 : cs[q * 2 + 1]? = some (.int .i64 b)) : partA cs (q * 2) (some 2) = some (.agg ⟨[.int .i64 a, .int .i64 b]⟩) :=
  partA_of (vs := [.int .i64 a, .int .i64 b]) (fun j v hv => by
    match j with
    | 0 => rw [← (show _ = some v from hv)]; exact h1
    | 1 => rw [← (show _ = some v from hv)]; exact h2
    | j + 2 => cases hv) (by simp)
theorem HpS.keep {N : Nat} {A A' : Hp} {sv : Value} {L : List (Int × Int)} (h : HpS N A sv L) (hA : ∀ b, blkOf sv = some b → A'.get b = A.get b) : HpS N A' sv L := by
  rcases h.e with ⟨rfl, rfl⟩ | ⟨b, c, cs, rfl, h1, h2, h3, h4, h5⟩
  · exact ⟨.inl ⟨rfl, rfl⟩⟩
  · exact ⟨.inr ⟨b, c, cs, rfl, by rw [hA b rfl]; exact h1, h2, h3, h4, h5⟩⟩
theorem HpS.blk {N : Nat} {A : Hp} {sv : Value} {L : List (Int × Int)} (h : HpS N A sv L) {b : Nat} (hb : blkOf sv = some b) : N ≤ b ∧ b < A.n := by
  rcases h.e with ⟨rfl, rfl⟩ | ⟨b', c, cs, rfl, h1, _, _, h4, _⟩
  · cases hb
  · cases hb; exact ⟨h4, Hp.lt_of_get h1⟩
theorem HpS.add {N g : Nat} {A : Hp} {sv : Value} {L : List (Int × Int)} {x y : Int} {ro : Bool} (h : HpS N A sv L) (hg : g ≤ N) (hN : N ≤ A.n) (hr : L.length < 1000000000000) :
    ∃ sv' A', appendA g (A.push (.cells [.int .i64 x, .int .i64 y] ro)) 2 16 sv (.slice (some ⟨A.n, 0, some 2⟩) 1 1) = some (sv', A') ∧ HpS N A' sv' (L ++ [(x, y)]) ∧ (∀ z, z < A.n → blkOf sv ≠ some z → A'.get z = A.get z) ∧ A.n ≤ A'.n ∧ ∀ z, z < A.n → blkOf sv' = some z → blkOf sv = some z := by
  have hcells : cellsAt (A.push (.cells [.int .i64 x, .int .i64 y] ro)) (1 * 2) (.slice (some ⟨A.n, 0, some 2⟩) 1 1) = some [.int .i64 x, .int .i64 y] := by
    simp only [cellsAt, get_push_new]
    rfl
  have hlast : ∀ q, q < (L ++ [(x, y)]).length → (L ++ [(x, y)]).getD q (0, 0) = if q = L.length then (x, y) else L.getD q (0, 0) := fun q hq => by
    simp only [List.length_append, List.length_singleton] at hq
    rw [List.getD_eq_getElem?_getD, List.getD_eq_getElem?_getD]
    by_cases h1 : q = L.length
    · rw [if_pos h1, h1, List.getElem?_append_right (Nat.le_refl _)]; simp
    · rw [if_neg h1, List.getElem?_append_left (by omega)]
  rcases h.e with ⟨rfl, rfl⟩ | ⟨b, c, cs, rfl, hb, hc, hlc, hNb, hat⟩
  · refine ⟨.slice (some ⟨A.n + 1, 0, some 2⟩) 1 1, (A.push (.cells [.int .i64 x, .int .i64 y] ro)).push (.cells [.int .i64 x, .int .i64 y] false), ?_, ⟨.inr ⟨A.n + 1, 1, _, rfl, by rw [get_push_eq (by simp)], rfl, Nat.le_refl _, by omega, fun q hq => ?_⟩⟩, fun z hz _ => by rw [get_push_old (by simp; omega), get_push_old hz], by simp; omega, fun z hz h => by cases h; omega⟩
    · unfold appendA
      simp only [hcells]
      rfl
    · have : q = 0 := by simpa using hq
      subst this
      exact ⟨rfl, rfl⟩
  · have hbn := Hp.lt_of_get hb
    have hb1 : (A.push (.cells [.int .i64 x, .int .i64 y] ro)).get b = some (.cells cs false) := by rw [get_push_old hbn]; exact hb
    unfold appendA
    simp only [hcells]
    rw [if_pos ⟨rfl, by decide⟩, if_neg (by decide)]
    simp only [hb1]
    rw [if_pos ⟨by omega, by unfold room; omega, by unfold room; omega, trivial⟩]
    by_cases hfull : L.length = c
    · rw [if_pos (by omega)]
      refine ⟨_, _, rfl, ⟨.inr ⟨A.n + 1, L.length + 1, cs ++ [.int .i64 x, .int .i64 y], by simp, by rw [Hp.get_push, Hp.n_set, Hp.n_push, if_pos rfl]; simp, by simp [hc]; omega, by simp, by omega, fun q hq => ?_⟩⟩, fun z hz hzb => ?_, by simp; omega, fun z hz h => ?_⟩
      · rw [hlast q hq]
        simp only [List.length_append, List.length_singleton] at hq
        by_cases h1 : q = L.length
        · rw [if_pos h1, List.getElem?_append_right (by omega), List.getElem?_append_right (by omega), show q * 2 - cs.length = 0 by omega, show q * 2 + 1 - cs.length = 1 by omega]
          exact ⟨rfl, rfl⟩
        · rw [if_neg h1, List.getElem?_append_left (by omega), List.getElem?_append_left (by omega)]
          exact hat q (by omega)
      · have hzb' : z ≠ b := fun h => hzb (by rw [h]; rfl)
        rw [get_push_old (by simp; omega), get_set_ne (by simp; omega) hzb', get_push_old hz]
      · simp [blkOf] at h; omega
    · rw [if_neg (by omega), if_pos (by omega)]
      have hw : writeA g (A.push (.cells [.int .i64 x, .int .i64 y] ro)) b (0 + L.length * 2) [.int .i64 x, .int .i64 y] = some ((A.push (.cells [.int .i64 x, .int .i64 y] ro)).set b (some (.cells (setRange cs (L.length * 2) [.int .i64 x, .int .i64 y]) false))) := by
        unfold writeA
        rw [if_pos (by omega), hb1, Nat.zero_add]
        simp only
        rw [if_pos ⟨by simp; omega, rfl⟩]
      rw [hw]
      have hsl : (setRange cs (L.length * 2) [Value.int .i64 x, .int .i64 y]).length = cs.length := setRange_length (by simp; omega)
      refine ⟨_, _, rfl, ⟨.inr ⟨b, c, setRange cs (L.length * 2) [.int .i64 x, .int .i64 y], by simp, get_set_same hb1, by omega, by simp; omega, hNb, fun q hq => ?_⟩⟩, fun z hz hzb => ?_, by simp, fun z hz h => h⟩
      · rw [hlast q hq, setRange_get (by simp; omega), setRange_get (by simp; omega)]
        simp only [List.length_append, List.length_singleton] at hq
        simp only [List.length_cons, List.length_nil]
        by_cases h1 : q = L.length
        · rw [if_pos h1, if_pos (by omega), if_pos (by omega), show q * 2 - L.length * 2 = 0 by omega, show q * 2 + 1 - L.length * 2 = 1 by omega]
          exact ⟨rfl, rfl⟩
        · rw [if_neg h1, if_neg (by omega), if_neg (by omega)]
          exact hat q (by omega)
      · have hzb' : z ≠ b := fun h => hzb (by rw [h]; rfl)
        rw [get_set_ne (by simp; omega) hzb', get_push_old hz]
end Go.Ab.Dike
namespace Go.Ab.Dike
open Go Go.Ab
def bef275 : Value := .func (.func 275) ⟨[]⟩ ⟨[]⟩
structure HpA (N XH : Nat) (A : Hp) (L : List (Int × Int)) : Prop where
  e : ∃ sv, A.get XH = some (.cells [sv, bef275] false) ∧ HpS N A sv L
  lt : XH < N
def HeB (A : Hp) (XH z : Nat) : Prop := ∃ sv, A.get XH = some (.cells [sv, bef275] false) ∧ blkOf sv = some z
structure HUp (XH : Nat) (A A' : Hp) : Prop where
  n : A.n ≤ A'.n
  o : ∀ z, z < A.n → z ≠ XH → ¬ HeB A XH z → A'.get z = A.get z
  b : ∀ z, z < A.n → HeB A' XH z → HeB A XH z
theorem HUp.refl (XH : Nat) (A : Hp) : HUp XH A A := ⟨Nat.le_refl _, fun _ _ _ _ => rfl, fun _ _ h => h⟩
theorem HUp.trans {XH : Nat} {A A' A'' : Hp} (h : HUp XH A A') (h' : HUp XH A' A'') : HUp XH A A'' :=
  ⟨Nat.le_trans h.n h'.n, fun z hz hx hb => (h'.o z (Nat.lt_of_lt_of_le hz h.n) hx fun hb' => hb (h.b z hz hb')).trans (h.o z hz hx hb), fun z hz hb => h.b z hz (h'.b z (Nat.lt_of_lt_of_le hz h.n) hb)⟩
theorem HUp.of {XH : Nat} {A A' : Hp} (h : Ext' A A') (hX : XH < A.n) : HUp XH A A' :=
  ⟨h.1, fun z hz _ _ => h.2 z hz, fun z _ hb => by
    obtain ⟨sv, h1, h2⟩ := hb
    exact ⟨sv, by rw [← h.2 XH hX]; exact h1, h2⟩⟩
theorem HUp.same {XH b : Nat} {A A' : Hp} {sv sv' : Value} (hn : A.n ≤ A'.n) (hX : A.get XH = some (.cells [sv, bef275] false)) (hX' : A'.get XH = some (.cells [sv', bef275] false)) (hb : blkOf sv = some b) (hb' : blkOf sv' = some b) (ho : ∀ z, z < A.n → z ≠ XH → z ≠ b → A'.get z = A.get z) : HUp XH A A' := by
  refine ⟨hn, fun z hz hx hnb => ho z hz hx fun h => hnb ⟨sv, hX, by rw [h]; exact hb⟩, fun z hz hB => ?_⟩
  obtain ⟨sv2, h1, h2⟩ := hB
  rw [hX'] at h1
  cases h1
  exact ⟨sv, hX, by rw [hb, ← h2, hb']⟩
theorem HUp.new {XH Y : Nat} {A A' A'' : Hp} (h : HUp XH A A') (hY : A.n ≤ Y) (hX : Y ≠ XH) (hn : A'.n ≤ A''.n) (ho : ∀ z, z ≠ Y → A''.get z = A'.get z) : HUp XH A A'' :=
  ⟨Nat.le_trans h.n hn, fun z hz hx hb => (ho z (by omega)).trans (h.o z hz hx hb), fun z hz hB => by
    obtain ⟨sv, h1, h2⟩ := hB
    exact h.b z hz ⟨sv, by rw [← ho XH (Ne.symm hX)]; exact h1, h2⟩⟩
theorem HpA.ext {N XH : Nat} {A A' : Hp} {L : List (Int × Int)} (h : HpA N XH A L) (he : Ext' A A') : HpA N XH A' L := by
  obtain ⟨sv, h1, h2⟩ := h.e
  exact ⟨⟨sv, he.get h1, h2.keep fun b hb => he.2 b (h2.blk hb).2⟩, h.lt⟩
theorem two_rows {cs : List Value} {c i k : Nat} {L : List (Int × Int)} (hc : cs.length = c * 2) (hl : L.length ≤ c) (hi : i < L.length) (hk : k < L.length) (hat : ∀ q, q < L.length → cs[q * 2]? = some (.int .i64 (L.getD q (0, 0)).1) ∧ cs[q * 2 + 1]? = some (.int .i64 (L.getD q (0, 0)).2)) :
    ∀ q, q < (swp L i k).length → (setRange (setRange cs (i * 2) [.int .i64 (L.getD k (0, 0)).1, .int .i64 (L.getD k (0, 0)).2]) (k * 2) [.int .i64 (L.getD i (0, 0)).1, .int .i64 (L.getD i (0, 0)).2])[q * 2]? = some (.int .i64 ((swp L i k).getD q (0, 0)).1) ∧
      (setRange (setRange cs (i * 2) [.int .i64 (L.getD k (0, 0)).1, .int .i64 (L.getD k (0, 0)).2]) (k * 2) [.int .i64 (L.getD i (0, 0)).1, .int .i64 (L.getD i (0, 0)).2])[q * 2 + 1]? = some (.int .i64 ((swp L i k).getD q (0, 0)).2) := by
  intro q hq
  rw [swp_length] at hq
  generalize hX : [Value.int .i64 (L.getD k (0, 0)).1, .int .i64 (L.getD k (0, 0)).2] = X
  generalize hY : [Value.int .i64 (L.getD i (0, 0)).1, .int .i64 (L.getD i (0, 0)).2] = Y
  have lX : X.length = 2 := by rw [← hX]; rfl
  have lY : Y.length = 2 := by rw [← hY]; rfl
  have l1 : (setRange cs (i * 2) X).length = cs.length := setRange_length (by omega)
  have h : ∀ p, (setRange (setRange cs (i * 2) X) (k * 2) Y)[p]? = if k * 2 ≤ p ∧ p < k * 2 + 2 then Y[p - k * 2]? else if i * 2 ≤ p ∧ p < i * 2 + 2 then X[p - i * 2]? else cs[p]? := fun p => by
    rw [setRange_get (by omega) p, setRange_get (by omega) p, lX, lY]
  rw [swp_get hi hk hq]
  by_cases h1 : q = k
  · rw [if_pos h1]
    refine ⟨?_, ?_⟩
    · rw [h, if_pos (by omega), show q * 2 - k * 2 = 0 by omega, ← hY]; rfl
    · rw [h, if_pos (by omega), show q * 2 + 1 - k * 2 = 1 by omega, ← hY]; rfl
  · rw [if_neg h1]
    by_cases h2 : q = i
    · rw [if_pos h2]
      refine ⟨?_, ?_⟩
      · rw [h, if_neg (by omega), if_pos (by omega), show q * 2 - i * 2 = 0 by omega, ← hX]; rfl
      · rw [h, if_neg (by omega), if_pos (by omega), show q * 2 + 1 - i * 2 = 1 by omega, ← hX]; rfl
    · rw [if_neg h2]
      refine ⟨?_, ?_⟩
      · rw [h, if_neg (by omega), if_neg (by omega)]; exact (hat q hq).1
      · rw [h, if_neg (by omega), if_neg (by omega)]; exact (hat q hq).2
def body278 : ACode := (.block 1
 (.seq
 (.ops [
oM 42 5,
oM 6 42])
 (.seq
 (.seq
 (.ops [
oM 43 5,
oP 44 (.bin .mul (oK 2) (.t 43)),
oC 45 .add 44 1,
oM 46 5,
oP 47 (.bin .mul (oK 2) (.t 46)),
oC 48 .add 47 2,
oP 49 (.slit 2 1 [.int .i64 0] [(0, .t 45), (1, .t 48)]),
oP 50 (.len (.t 49)),
oP 51 (.move (oK 0))])
 (.block 2
 (.loop
 (.seq
 (.ops [
oB 52 .lss 51 50])
 (.seq
 (.cond (.t 52)
 .skip
 (.exit 2))
 (.seq
 (.block 3
 (.seq
 (.ops [
oI 53 49 51 1,
oL 54 53,
oM 8 54])
 (.seq
 (.ops [
oM 55 8,
oM 56 4,
oB 57 .lss 55 56,
oM 58 57,
oN 59 58 true 0,
oQ 60 58 true (.nilCheck (.t 59)),
oQ 61 58 true (.fieldAddr (.t 60) 1),
oQ 62 58 true (.load (.t 61) none),
oN 63 58 true 0,
oQ 64 58 true (.nilCheck (.t 63)),
oQ 65 58 true (.fieldAddr (.t 64) 0),
oQ 66 58 true (.load (.t 65) none),
oN 67 58 true 8,
oQ 68 58 true (.idxS (.t 66) (.t 67) 2),
oQ 69 58 true (.load (.t 68) (some 2)),
oN 70 58 true 0,
oQ 71 58 true (.nilCheck (.t 70)),
oQ 72 58 true (.fieldAddr (.t 71) 0),
oQ 73 58 true (.load (.t 72) none),
oN 74 58 true 6,
oQ 75 58 true (.idxS (.t 73) (.t 74) 2),
oQ 76 58 true (.load (.t 75) (some 2)),
oQ 77 58 true (.call (.t 62) [.t 69, .t 76] false),
oP 78 (.pick (.t 58) (.t 77) (.k (.bool false)))])
 (.cond (.t 78)
 (.ops [
oM 79 8,
oM 6 79])
 .skip))))
 (.ops [
oC 80 .add 51 1,
oM 51 80])))))))
 (.seq
 (.seq
 (.ops [
oM 81 6,
oM 82 5,
oB 83 .eql 81 82])
 (.cond (.t 83)
 (.seq
 (.ops [
oD 84 3 2,
oT 2 84 2])
 .ret)
 .skip))
 (.seq
 (.ops [
oM 85 0,
oP 86 (.nilCheck (.t 85)),
oF 87 86 0,
oL 88 87,
oM 89 5,
oM 90 0,
oP 91 (.nilCheck (.t 90)),
oF 92 91 0,
oL 93 92,
oM 94 6,
oM 95 0,
oP 96 (.nilCheck (.t 95)),
oF 97 96 0,
oL 98 97,
oM 99 6,
oI 100 98 99 2,
oD 101 100 2,
oM 102 0,
oP 103 (.nilCheck (.t 102)),
oF 104 103 0,
oL 105 104,
oM 106 5,
oI 107 105 106 2,
oD 108 107 2,
oI 109 88 89 2,
oT 109 101 2,
oI 110 93 94 2,
oT 110 108 2])
 (.ops [
oM 111 6,
oM 5 111]))))))
section
variable {g : Nat} {rd : Option Nat} {T : List Value} {D : List Nat} {A : Hp} {Q : Ex → St → Prop} {V : Value → Hp → Prop}
theorem w275 {a b c d : Int} (hg : g ≤ A.n) (hV : ∀ A', Ext' A A' → V (.bool (decide (b < d))) A') : WF AP KL g 275 [.agg ⟨[.int .i64 a, .int .i64 b]⟩, .agg ⟨[.int .i64 c, .int .i64 d]⟩] A V := by
  rw [WF_body (show KL 275 = none from rfl) (show AP 275 = some F275 from rfl)]
  simp (disch := as_aux_lemma => first | omega | simp only [hDs] <;> omega | simp [isCell]) [hRs, takeMarks, resA, resAll, resOne, Value.cells, F275]
  exact hV _ ((Ext'.push A _).trans (Ext'.push _ _))
theorem loop277 {N XH : Nat} {A0 : Hp} {L0 : List (Int × Int)} (hg : g ≤ XH) (hXN : XH < N) (hlen : L0.length < 1000000000000) (hQ : ∀ T' A' L, L.length = L0.length → (∀ x, x ∈ L ↔ x ∈ L0) → HpA N XH A' L → HUp XH A0 A' → Q (.exit 0) ⟨T', D, A'⟩) :
    ∀ (m i : Nat) {T : List Value} {A : Hp} (L : List (Int × Int)), i ≤ m → i < L0.length → L.length = L0.length → (∀ x, x ∈ L ↔ x ∈ L0) → HpA N XH A L → HUp XH A0 A → N ≤ A.n → tget T 0 = .pointer (some ⟨XH, 0, none⟩) → tget T 4 = .int .i64 i → W AP KL g rd (.loop body277) ⟨T, D, A⟩ Q := by
  intro m
  induction m with
  | zero =>
    intro i T A L him hi hl hmem hH hU hN t0 t4
    have : i = 0 := by omega
    subst this
    rw [W_loop]
    simp (disch := as_aux_lemma => first | omega | simp only [hDs] <;> omega | simp [isCell]) [hRs, takeMarks, resA, resAll, resOne, Value.cells, body277, t4]
    exact hQ _ _ L hl hmem hH hU
  | succ m ih =>
    intro i T A L him hi hl hmem hH hU hN t0 t4
    by_cases h0 : i = 0
    · subst h0
      rw [W_loop]
      simp (disch := as_aux_lemma => first | omega | simp only [hDs] <;> omega | simp [isCell]) [hRs, takeMarks, resA, resAll, resOne, Value.cells, body277, t4]
      exact hQ _ _ L hl hmem hH hU
    obtain ⟨sv, hX, hS⟩ := hH.e
    obtain ⟨b, c, cs, rfl, hb, hc, hlc, hNb, hat⟩ := hS.row (by omega)
    obtain ⟨n, hn⟩ : ∃ n, n = L.length := ⟨_, rfl⟩
    have hiL : i < L.length := by omega
    have hpL : (i - 1) / 2 < L.length := by omega
    obtain ⟨k, hk⟩ : ∃ k, k = (i - 1) / 2 := ⟨_, rfl⟩
    rw [← hk] at hpL
    have hbn := Hp.lt_of_get hb
    have e1 := wrId (n := (i : Int) - 1) (by omega) (by omega)
    have e2 : ((i : Int) - 1).tdiv 2 = (k : Int) := by rw [show (i : Int) - 1 = ((i - 1 : Nat) : Int) by omega, hk]; rfl
    have e3 := wrId (n := (k : Int)) (by omega) (by omega)
    have ri := row_part (hat i hiL).1 (hat i hiL).2
    have rk := row_part (hat k hpL).1 (hat k hpL).2
    obtain ⟨xi, hxi⟩ : ∃ xi, xi = L.getD i (0, 0) := ⟨_, rfl⟩
    obtain ⟨xk, hxk⟩ : ∃ xk, xk = L.getD k (0, 0) := ⟨_, rfl⟩
    have hrows := two_rows hc hlc hiL hpL hat
    rw [← hxi] at ri
    rw [← hxk] at rk
    rw [← hxi, ← hxk] at hrows
    rw [← hn] at hX
    have hX' := hX
    unfold bef275 at hX'
    have hin : (i : Int) < n := by omega
    have hkn : (k : Int) < n := by omega
    have hk0 : (0 : Int) ≤ k := by omega
    rw [W_loop]
    simp (disch := as_aux_lemma => first | omega | simp only [hDs] <;> omega | simp [isCell]) [hRs, takeMarks, resA, resAll, resOne, Value.cells, body277, t0, t4, show (0 : Int) < i by omega, show 0 < i by omega, h0, hX', hin, hkn, idxSA_ok, hb, ri, e1, binA_quo, e2, e3, rk]
    refine w275 (by omega) fun A1 e11 => ?_
    have n1 := e11.1
    have hX1 := e11.get hX'
    have hb1 := e11.get hb
    have hH1 := hH.ext e11
    have hU1 := hU.trans (HUp.of (XH := XH) e11 (by omega))
    by_cases hlt : xi.2 < xk.2
    · have l1 : (setRange cs (i * 2) [Value.int .i64 xk.1, .int .i64 xk.2]).length = cs.length := setRange_length (by simp; omega)
      have st1 : storeB (some (.cells cs false)) g A1 b (i * 2) [.int .i64 xk.1, .int .i64 xk.2] 2 = some (undef, A1.set b (some (.cells (setRange cs (i * 2) [.int .i64 xk.1, .int .i64 xk.2]) false))) := storeB_cells rfl (by omega) (by omega) rfl
      obtain ⟨A2, hA2⟩ : ∃ A2, A2 = A1.set b (some (.cells (setRange cs (i * 2) [.int .i64 xk.1, .int .i64 xk.2]) false)) := ⟨_, rfl⟩
      rw [← hA2] at st1
      have hA2n : A2.n = A1.n := by rw [hA2]; rfl
      have hb2 : A2.get b = some (.cells (setRange cs (i * 2) [.int .i64 xk.1, .int .i64 xk.2]) false) := by rw [hA2]; exact get_set_same hb1
      have o2 : ∀ z, z ≠ b → A2.get z = A1.get z := fun z hz => by rw [hA2]; exact get_set_ne (by omega) hz
      have hX2 := (o2 XH (by omega)).trans hX1
      have st2 : storeB (some (.cells (setRange cs (i * 2) [.int .i64 xk.1, .int .i64 xk.2]) false)) g A2 b (k * 2) [.int .i64 xi.1, .int .i64 xi.2] 2 = some (undef, A2.set b (some (.cells (setRange (setRange cs (i * 2) [.int .i64 xk.1, .int .i64 xk.2]) (k * 2) [.int .i64 xi.1, .int .i64 xi.2]) false))) := storeB_cells rfl (by omega) (by omega) rfl
      have o3 : ∀ (b' : Option ABlk) z, z ≠ b → (A2.set b b').get z = A1.get z := fun b' z hz => by rw [get_set_ne (by omega) hz, o2 z hz]
      simp (disch := as_aux_lemma => first | omega | simp only [hDs] <;> omega | simp [isCell]) [hRs, takeMarks, resA, resAll, resOne, Value.cells, t0, t4, hlt, hX1, hin, hkn, idxSA_ok, hb1, ri, e1, binA_quo, e2, e3, rk, st1, hX2, hb2, st2]
      refine ih k (swp L i k) (by omega) (by omega) (by rw [swp_length]; exact hl) (fun x => (swp_mem hiL hpL).trans (hmem x)) ⟨⟨.slice (some ⟨b, 0, some 2⟩) n c, ?_, ⟨.inr ⟨b, c, _, by rw [swp_length, ← hn], get_set_same hb2, ?_, by rw [swp_length]; exact hlc, hNb, hrows⟩⟩⟩, hXN⟩ (hU1.trans (HUp.same (b := b) (by simp; omega) hX1 ((o3 _ _ (by omega)).trans hX1) rfl rfl fun z _ _ hzb => o3 _ z hzb)) (by simp; omega) (by simp [t0]) (by simp [e3, e1, e2])
      · rw [o3 _ _ (by omega)]; exact hX1
      · exact (setRange_length (by simp; omega)).trans (l1.trans hc)
    · simp (disch := as_aux_lemma => first | omega | simp only [hDs] <;> omega | simp [isCell]) [hRs, takeMarks, resA, resAll, resOne, Value.cells, hlt]
      exact hQ _ _ L hl hmem hH1 hU1
theorem w277 {N XH : Nat} {L : List (Int × Int)} {x y : Int} (hH : HpA N XH A L) (hN : N ≤ A.n) (hg : g ≤ XH) (hlen : L.length + 1 < 1000000000000)
    (hV : ∀ v A' L', L'.length = L.length + 1 → (∀ z, z ∈ L' ↔ z ∈ L ∨ z = (x, y)) → HpA N XH A' L' → HUp XH A A' → V v A') : WF AP KL g 277 [.pointer (some ⟨XH, 0, none⟩), .agg ⟨[.int .i64 x, .int .i64 y]⟩] A V := by
  rw [WF_body (show KL 277 = none from rfl) (show AP 277 = some F277 from rfl)]
  obtain ⟨sv, hX, hS⟩ := hH.e
  have hXN := hH.lt
  obtain ⟨B, hB⟩ : ∃ B, B = A.push (.cells [.int .i64 x, .int .i64 y] false) := ⟨_, rfl⟩
  have hBn : B.n = A.n + 1 := by rw [hB]; rfl
  have eB : Ext' A B := by rw [hB]; exact Ext'.push A _
  have h3 : B.get A.n = some (.cells [.int .i64 x, .int .i64 y] false) := by rw [hB, get_push_new]
  have hXB := eB.get hX
  have hSB : HpS N B sv L := hS.keep fun b hb => eB.2 b (hS.blk hb).2
  obtain ⟨sv', A1, ha, hS', ho, hn1, hbk⟩ := hSB.add (g := g) (x := x) (y := y) (ro := false) (by omega) (by omega) (by omega)
  have hsl := hS.len
  have hX1 := (ho XH (by omega) (fun h => by have := (hSB.blk h).1; omega)).trans hXB
  obtain ⟨p', q', r', rfl⟩ : ∃ p q r, sv' = .slice p q r := by
    rcases hS'.e with ⟨rfl, _⟩ | ⟨_, _, _, rfl, _⟩
    · exact ⟨_, _, _, rfl⟩
    · exact ⟨_, _, _, rfl⟩
  unfold bef275 at hXB hX1
  simp (disch := as_aux_lemma => first | omega | simp only [hDs] <;> omega | simp [isCell]) [hRs, takeMarks, resA, resAll, resOne, Value.cells, F277, ← hB, hXB, hsl, h3, slitA, fillA, setRange, ha, hX1, storeB_cells]
  obtain ⟨A2, hA2⟩ : ∃ A2, A2 = A1.set XH (some (.cells [.slice p' q' r', bef275] false)) := ⟨_, rfl⟩
  have hA2' := hA2.symm
  unfold bef275 at hA2'
  rw [hA2']
  have hA2n : A2.n = A1.n := by rw [hA2]; rfl
  have o2 : ∀ z, z ≠ XH → A2.get z = A1.get z := fun z hz => by rw [hA2]; exact get_set_ne (Hp.lt_of_get hX1) hz
  have hH2 : HpA N XH A2 (L ++ [(x, y)]) := ⟨⟨.slice p' q' r', by rw [hA2]; exact get_set_same hX1, hS'.keep fun b hb => o2 b (by have := (hS'.blk hb).1; omega)⟩, hXN⟩
  have hU2 : HUp XH A A2 := by
    refine ⟨by omega, fun z hz hx hnb => ?_, fun z hz hB => ?_⟩
    · rw [o2 z hx, ho z (by omega) (fun h => hnb ⟨sv, hX, h⟩), eB.2 z hz]
    · obtain ⟨sv2, h1, h2⟩ := hB
      have hx2 : A2.get XH = some (.cells [.slice p' q' r', bef275] false) := by rw [hA2]; exact get_set_same hX1
      rw [hx2] at h1
      cases h1
      exact ⟨sv, hX, hbk z (by omega) h2⟩
  refine loop277 (N := N) (XH := XH) (A0 := A) (L0 := L ++ [(x, y)]) hg hXN (by simp; omega) ?_ L.length L.length (L ++ [(x, y)]) (Nat.le_refl _) (by simp) rfl (fun _ => Iff.rfl) hH2 hU2 (by omega) (by simp) (by simp)
  intro T' A' L' hl hm hH' hU'
  simp (disch := as_aux_lemma => first | omega | simp only [hDs] <;> omega | simp [isCell]) [hRs, takeMarks, resA, resAll, resOne, Value.cells]
  refine hV _ A' L' (by rw [hl]; simp) (fun z => ?_) hH' hU'
  rw [hm z]; simp
end
end Go.Ab.Dike
