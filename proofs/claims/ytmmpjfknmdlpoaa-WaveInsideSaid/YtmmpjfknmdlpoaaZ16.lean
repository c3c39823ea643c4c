/- a new sheet: slices.Repeat, whole. -/
import Derived.Test.YtmmpjfknmdlpoaaZ15
set_option linter.unusedSimpArgs false
set_option linter.unusedVariables false
set_option linter.unusedSectionVars false
namespace Go.Ab.Wave
open Go Go.Ab
def nbP (P : Par) (c : Nat) : List Nat := (nbrs P.w P.h c).map Int.toNat
theorem nb_form {P : Par} (h : POk P) {a b : Nat} (hb : b ∈ nbP P a) : ∃ d, d ∈ dirs ∧ (0 ≤ (a : Int).tmod P.w + d.1 ∧ (a : Int).tmod P.w + d.1 ≤ P.w - 1) ∧ (0 ≤ (a : Int).tdiv P.w + d.2 ∧ (a : Int).tdiv P.w + d.2 ≤ P.h - 1) ∧ (b : Int) = ((a : Int).tdiv P.w + d.2) * P.w + ((a : Int).tmod P.w + d.1) := by
  obtain ⟨hw, hh, _, hl⟩ := check_parts h.chk
  unfold nbP nbrs at hb
  obtain ⟨z, hz, hzb⟩ := List.mem_map.1 hb
  obtain ⟨d, hd, hz⟩ := List.mem_flatMap.1 hz
  unfold nbD at hz
  split at hz
  · rename_i hc
    rw [List.mem_singleton] at hz
    refine ⟨d, hd, hc.1, hc.2, ?_⟩
    have : 0 ≤ z := by rw [hz]; exact Int.add_nonneg (Int.mul_nonneg hc.2.1 (by omega)) hc.1.1
    rw [← hz]; omega
  · cases hz
theorem nb_lt {P : Par} (h : POk P) {a b : Nat} (hb : b ∈ nbP P a) : b < P.l.length := by
  obtain ⟨hw, hh, _, hl⟩ := check_parts h.chk
  obtain ⟨d, hd, h1, h2, h3⟩ := nb_form h hb
  have : ((a : Int).tdiv P.w + d.2) * P.w ≤ (P.h - 1) * P.w := Int.mul_le_mul_of_nonneg_right h2.2 (by omega)
  have e : (P.h - 1) * P.w = P.w * P.h - P.w := by rw [Int.sub_mul, Int.one_mul, Int.mul_comm]
  omega
theorem nb_ne {P : Par} (h : POk P) {a b : Nat} (hb : b ∈ nbP P a) : b ≠ a := by
  obtain ⟨hw, hh, _, hl⟩ := check_parts h.chk
  obtain ⟨d, hd, h1, h2, h3⟩ := nb_form h hb
  intro e
  subst e
  have e1 : (b : Int) = (b : Int).tdiv P.w * P.w + (b : Int).tmod P.w := by
    have := Int.mul_tdiv_add_tmod (b : Int) P.w
    rw [Int.mul_comm] at this
    exact this.symm
  have e2 : ((b : Int).tdiv P.w + d.2) * P.w = (b : Int).tdiv P.w * P.w + d.2 * P.w := Int.add_mul ..
  have e3 : d.2 * P.w + d.1 = 0 := by omega
  simp only [dirs, List.mem_cons, List.not_mem_nil, or_false] at hd
  rcases hd with rfl | rfl | rfl | rfl <;> simp at e3 <;> omega
theorem sum_set_eq {f : Int → Nat} : ∀ {l : List Int} {i : Nat} {v : Int}, i < l.length → ((l.set i v).map f).sum + f (gi l i) = (l.map f).sum + f v
  | x :: l, 0, v, _ => by
    simp only [List.set_cons_zero, List.map_cons, List.sum_cons]
    show f v + _ + f x = _
    omega
  | x :: l, i + 1, v, hi => by
    have := sum_set_eq (f := f) (l := l) (i := i) (v := v) (by simpa using hi)
    simp only [List.set_cons_succ, List.map_cons, List.sum_cons]
    have e : gi (x :: l) (i + 1) = gi l i := rfl
    rw [e]; omega
theorem sum_le {f : Int → Nat} {R : Nat} : ∀ {l : List Int}, (∀ v ∈ l, f v ≤ R) → (l.map f).sum ≤ l.length * R
  | [], _ => by simp
  | x :: l, h => by
    have := sum_le (f := f) (R := R) (l := l) fun v hv => h v (by simp [hv])
    have := h x (by simp)
    simp only [List.map_cons, List.sum_cons, List.length_cons, Nat.succ_mul]
    omega
def isFin (v : Int) : Nat := if v < Never then 1 else 0
def fin (vs : List Int) : Nat := (vs.map isFin).sum
def GA (T0 CR : Int) (vs : List Int) : Prop := ∀ x, x < vs.length → gi vs x < Never → gi vs x ≤ T0 + fin vs * CR
def rankA (RB : Nat) (v : Int) : Nat := if v < Never then v.toNat else RB
theorem fin_le (vs : List Int) : fin vs ≤ vs.length := by
  have := sum_le (f := isFin) (R := 1) (l := vs) (fun v _ => by unfold isFin; split <;> omega)
  unfold fin; omega
theorem GA_step {T0 CR u : Int} {RB : Nat} {vs : List Int} {a b : Nat} (hCR : 0 ≤ CR) (hG : GA T0 CR vs) (ha : a < vs.length) (hb : b < vs.length) (hva : gi vs a < Never) (hu0 : 0 ≤ u) (hu : u ≤ gi vs a + CR) (hlt : u < gi vs b) (hN : gi vs b ≤ Never) (hRB : T0 + (vs.length : Int) * CR < RB) :
    GA T0 CR (vs.set b u) ∧ rankA RB u < rankA RB (gi vs b) := by
  have hs := sum_set_eq (f := isFin) (l := vs) (i := b) (v := u) hb
  have hu1 : isFin u = 1 := by unfold isFin; rw [if_pos (by omega)]
  have hf := fin_le (vs.set b u)
  rw [List.length_set] at hf
  have ha' := hG a ha hva
  have hle : fin vs ≤ fin (vs.set b u) := by
    unfold fin
    have : isFin (gi vs b) ≤ 1 := by unfold isFin; split <;> omega
    omega
  have hmul : (fin vs : Int) * CR ≤ (fin (vs.set b u) : Int) * CR := Int.mul_le_mul_of_nonneg_right (by omega) hCR
  have hmul2 : (fin (vs.set b u) : Int) * CR ≤ (vs.length : Int) * CR := Int.mul_le_mul_of_nonneg_right (by omega) hCR
  have hbu : u ≤ T0 + (fin (vs.set b u) : Int) * CR := by
    by_cases hbN : gi vs b < Never
    · have := hG b hb hbN; omega
    · have h0 : isFin (gi vs b) = 0 := by unfold isFin; rw [if_neg hbN]
      have e : fin (vs.set b u) = fin vs + 1 := by unfold fin; omega
      rw [e]
      have : ((fin vs + 1 : Nat) : Int) * CR = (fin vs : Int) * CR + CR := by simp [Int.add_mul]
      omega
  refine ⟨fun x hx hxN => ?_, ?_⟩
  · rw [List.length_set] at hx
    rw [gi_set hb] at hxN ⊢
    by_cases hxb : x = b
    · rw [if_pos hxb]; exact hbu
    · rw [if_neg hxb] at hxN ⊢
      have := hG x hx hxN; omega
  · unfold rankA
    rw [if_pos (by omega)]
    split <;> omega
theorem GA_rank {T0 CR : Int} {RB : Nat} {vs : List Int} (hCR : 0 ≤ CR) (hG : GA T0 CR vs) (hRB : T0 + (vs.length : Int) * CR < RB) : ∀ v ∈ vs, rankA RB v ≤ RB := by
  intro v hv
  obtain ⟨i, hi, he⟩ := List.mem_iff_getElem.1 hv
  have e : gi vs i = v := by rw [gi_eq hi]; exact he
  have hf := fin_le vs
  have hmul2 : (fin vs : Int) * CR ≤ (vs.length : Int) * CR := Int.mul_le_mul_of_nonneg_right (by omega) hCR
  unfold rankA
  split
  · rename_i h
    have := hG i hi (by rw [e]; exact h)
    rw [e] at this
    omega
  · exact Nat.le_refl _
def KP (ra rs ru rl x : Nat) : Prop := x = ra ∨ x = rs ∨ x = ru ∨ x = rl
theorem Keep.low' {Pr : Nat → Prop} {A0 A A' : Hp} {N0 : Nat} (h : Keep Pr A0 A) (h0 : A0.n ≤ N0) (hA : ∀ x, x < N0 → A'.get x = A.get x) (hn : A.n ≤ A'.n) : Keep Pr A0 A' :=
  ⟨Nat.le_trans h.1 hn, fun x hx hp => by rw [hA x (by omega)]; exact h.2 x hx hp⟩
theorem Keep.put' {Pr : Nat → Prop} {A0 A : Hp} {r : Nat} {b : Option ABlk} (h : Keep Pr A0 A) (hr : r < A.n) (hp : Pr r) : Keep Pr A0 (A.set r b) :=
  ⟨h.1, fun x hx hpx => by rw [get_set_ne hr (fun e => hpx (by rw [e]; exact hp))]; exact h.2 x hx hpx⟩
structure SPos (P : Par) (X ra rs ru rl B2 B7 N0 g : Nat) : Prop where
  x2 : X < B2
  x7 : X < B7
  n2 : B2 < N0
  n7 : B7 < N0
  g : g ≤ ra
  ord : ra < rs ∧ rs < ru ∧ ru < rl ∧ rl < X
def SA (P : Par) (X ra rs ru rl B2 B7 : Nat) (st su la0 : List Int) (A0 : Hp) : Stl where
  n := P.l.length
  rv := ra
  rl := ra
  stepF := .func (.func 98) ⟨[]⟩ ⟨[ptrV B7, ptrV B2]⟩
  neg := false
  lf := false
  sp := P.spA
  Inv vs la A := la = la0 ∧ Sheet A P X ra rs ru rl vs st su la0 ∧ A.get B2 = some (.cells [ptrV X] false) ∧ A.get B7 = some (.cells [openF B2] false) ∧ Keep (KP ra rs ru rl) A0 A
  Val _ v := 0 ≤ v ∧ v ≤ Never
  nb := nbP P
  rank := rankA 2300000000
  G := GA 1000000000 32000000
theorem spA_true {P : Par} {a b : Nat} {t : Int} (h : (P.spA a b t).2 = true) : P.open a b = true ∧ t ≠ Never ∧ (P.spA a b t).1 = t + P.cross a b := by
  unfold Par.spA at h ⊢
  split at h
  · rename_i hc; rw [if_pos hc]; exact ⟨hc.1, hc.2, rfl⟩
  · cases h
theorem open_dep {P : Par} {a b : Nat} (h : P.open a b = true) : 1 ≤ P.dep a ∧ 1 ≤ P.dep b := by
  simpa [Par.open] using h
theorem SA_ok {P : Par} {X ra rs ru rl B2 B7 N0 g : Nat} {st su la0 : List Int} {A0 : Hp} (hP : POk P) (h0 : A0.n ≤ N0) (hp : SPos P X ra rs ru rl B2 B7 N0 g) (hgN : g ≤ N0) : StlOk (SA P X ra rs ru rl B2 B7 st su la0 A0) P X N0 g := by
  have hx2 := hp.x2
  have hx7 := hp.x7
  have hn2 := hp.n2
  have hn7 := hp.n7
  have ho := hp.ord
  refine ⟨⟨fun a b hb => nb_lt hP hb, fun a b hb => nb_ne hP hb, ?_, ?_⟩, rfl, fun c _ => rfl, hP, ⟨_, _, _, rfl⟩, fun vs la A h => h.2.1.ha, fun vs la A h => ⟨⟨_, h.2.1.hx, rfl⟩, h.2.1.hg⟩, by show ra < N0; omega, by show ra < N0; omega, by omega, ⟨hp.g, hgN⟩, ?_, ?_, ?_⟩
  · intro a b v w ha hb hv hs hw hk
    obtain ⟨h1, h2, h3⟩ := spA_true hs
    have hcr := hP.cross (open_dep h1).1 (open_dep h1).2
    show 0 ≤ (P.spA a b v).1 ∧ (P.spA a b v).1 ≤ Never
    have hk' : (P.spA a b v).1 < w := hk
    have hv' : 0 ≤ v ∧ v ≤ Never := hv
    have hw' : 0 ≤ w ∧ w ≤ Never := hw
    rw [h3] at hk' ⊢
    omega
  · intro vs a b hvn hval hG ha hb hs hk
    obtain ⟨h1, h2, h3⟩ := spA_true hs
    have hcr := hP.cross (open_dep h1).1 (open_dep h1).2
    have hbn := nb_lt hP hb
    have hva : 0 ≤ gi vs a ∧ gi vs a ≤ Never := hval a ha
    have hvb : 0 ≤ gi vs b ∧ gi vs b ≤ Never := hval b hbn
    have hk' : (P.spA a b (gi vs a)).1 < gi vs b := hk
    have hsm := hP.small
    have hvn' : vs.length = P.l.length := hvn
    have ha' : a < P.l.length := ha
    refine GA_step (a := a) (by omega) hG (by omega) (by omega) (by omega) (by show 0 ≤ (P.spA a b (gi vs a)).1; omega) (by show (P.spA a b (gi vs a)).1 ≤ _; omega) hk' hvb.2 (by rw [hvn']; omega)
  · intro vs la A A' h hA hn
    exact ⟨h.1, h.2.1.low fun x hx => hA x (by omega), (hA B2 hn2).trans h.2.2.1, (hA B7 hn7).trans h.2.2.2.1, Keep.low' h.2.2.2.2 h0 hA hn⟩
  · intro vs la A d v h hd hvn
    have hr := Hp.lt_of_get h.2.1.ha
    refine ⟨h.1, h.2.1.putA (by rw [List.length_set]; exact hvn), ?_, ?_, Keep.put' h.2.2.2.2 hr (.inl rfl)⟩
    · show (A.set ra _).get B2 = _
      rw [get_set_ne hr (by omega)]; exact h.2.2.1
    · show (A.set ra _).get B7 = _
      rw [get_set_ne hr (by omega)]; exact h.2.2.2.1
  · intro a b vs la A V h ha hb hv hvn hln hN hQ
    refine w98 h.2.1 hP ha (nb_lt hP hb) h.2.2.1 h.2.2.2.1 hv fun A' k => ?_
    refine hQ A' (k.keep _) ⟨?_, h.2.1.ext k, k.get h.2.2.1, k.get h.2.2.2.1, Keep.trans h.2.2.2.2 (k.keep _)⟩
    show (if (false && _) = true then _ else la) = la0
    simp [h.1]
def SS (P : Par) (X ra rs ru rl B2 B7 : Nat) (ar su la0 : List Int) (A0 : Hp) : Stl where
  n := P.l.length
  rv := rs
  rl := ra
  stepF := .func (.func 101) ⟨[]⟩ ⟨[ptrV B2, ptrV B7]⟩
  neg := true
  lf := false
  sp := P.spS
  Inv vs la A := la = la0 ∧ Sheet A P X ra rs ru rl ar vs su la0 ∧ A.get B2 = some (.cells [ptrV X] false) ∧ A.get B7 = some (.cells [openF B2] false) ∧ Keep (KP ra rs ru rl) A0 A
  Val _ v := 0 ≤ v ∧ v ≤ 200000000
  nb := nbP P
  rank v := (200000000 - v).toNat
  G _ := True
theorem spS_le {P : Par} (hP : POk P) {a b : Nat} {v : Int} (hv : 0 ≤ v) : 0 ≤ (P.spS a b v).1 ∧ (P.spS a b v).1 ≤ v := by
  have hk := hP.keep
  have hk' : 1 ≤ ofE P.up P.k0 P.k1 ∧ ofE P.up P.k0 P.k1 ≤ 1024 := by unfold ofE; split <;> omega
  have h0 : 0 ≤ v * ofE P.up P.k0 P.k1 := Int.mul_nonneg hv (by omega)
  exact ⟨(dv_bounds h0 (by omega)).1, dv_le h0 (by omega) (Int.mul_le_mul_of_nonneg_left hk'.2 hv)⟩
theorem SS_ok {P : Par} {X ra rs ru rl B2 B7 N0 g : Nat} {ar su la0 : List Int} {A0 : Hp} (hP : POk P) (h0 : A0.n ≤ N0) (hp : SPos P X ra rs ru rl B2 B7 N0 g) (hgN : g ≤ N0) : StlOk (SS P X ra rs ru rl B2 B7 ar su la0 A0) P X N0 g := by
  have hx2 := hp.x2
  have hx7 := hp.x7
  have hn2 := hp.n2
  have hn7 := hp.n7
  have ho := hp.ord
  have hg := hp.g
  refine ⟨⟨fun a b hb => nb_lt hP hb, fun a b hb => nb_ne hP hb, ?_, ?_⟩, rfl, fun c _ => rfl, hP, ⟨_, _, _, rfl⟩, fun vs la A h => h.2.1.hs, fun vs la A h => ⟨⟨_, h.2.1.hx, rfl⟩, h.2.1.hg⟩, by show rs < N0; omega, by show ra < N0; omega, by omega, ⟨by show g ≤ rs; omega, hgN⟩, ?_, ?_, ?_⟩
  · intro a b v w ha hb hv hs hw hk
    have hv' : 0 ≤ v ∧ v ≤ 200000000 := hv
    have := spS_le hP (a := a) (b := b) hv'.1
    show 0 ≤ (P.spS a b v).1 ∧ (P.spS a b v).1 ≤ 200000000
    omega
  · intro vs a b hvn hval hG ha hb hs hk
    have hbn := nb_lt hP hb
    have hva : 0 ≤ gi vs a ∧ gi vs a ≤ 200000000 := hval a ha
    have hvb : 0 ≤ gi vs b ∧ gi vs b ≤ 200000000 := hval b hbn
    have := spS_le hP (a := a) (b := b) hva.1
    have hk' : -(P.spS a b (gi vs a)).1 < -(gi vs b) := hk
    refine ⟨trivial, ?_⟩
    show (200000000 - (P.spS a b (gi vs a)).1).toNat < (200000000 - gi vs b).toNat
    omega
  · intro vs la A A' h hA hn
    exact ⟨h.1, h.2.1.low fun x hx => hA x (by omega), (hA B2 hn2).trans h.2.2.1, (hA B7 hn7).trans h.2.2.2.1, Keep.low' h.2.2.2.2 h0 hA hn⟩
  · intro vs la A d v h hd hvn
    have hr := Hp.lt_of_get h.2.1.hs
    refine ⟨h.1, h.2.1.putS (by rw [List.length_set]; exact hvn), ?_, ?_, Keep.put' h.2.2.2.2 hr (.inr (.inl rfl))⟩
    · show (A.set rs _).get B2 = _
      rw [get_set_ne hr (by omega)]; exact h.2.2.1
    · show (A.set rs _).get B7 = _
      rw [get_set_ne hr (by omega)]; exact h.2.2.2.1
  · intro a b vs la A V h ha hb hv hvn hln hN hQ
    refine w101 h.2.1 hP ha (nb_lt hP hb) h.2.2.1 h.2.2.2.1 hv fun A' k => ?_
    refine hQ A' (k.keep _) ⟨?_, h.2.1.ext k, k.get h.2.2.1, k.get h.2.2.2.1, Keep.trans h.2.2.2.2 (k.keep _)⟩
    show (if (false && _) = true then _ else la) = la0
    simp [h.1]
end Go.Ab.Wave
namespace Go.Ab.Wave
open Go Go.Ab
def stC (zs : List Int) (i : Nat) : Nat := (gi zs (i * 5)).toNat
def stA (P : Par) (zs a : List Int) (i : Nat) : List Int := if 1 ≤ P.dep (stC zs i) then a.set (stC zs i) (min (gi a (stC zs i)) (agE P.up (gi zs (i * 5 + 1)) (gi zs (i * 5 + 2)))) else a
def stS (P : Par) (zs a : List Int) (i : Nat) : List Int := if 1 ≤ P.dep (stC zs i) then a.set (stC zs i) (max (gi a (stC zs i)) (ofE P.up (gi zs (i * 5 + 3)) (gi zs (i * 5 + 4)) * fourthE P.up (P.dep (stC zs i)))) else a
structure StartOk (P : Par) (zs : List Int) (n : Nat) : Prop where
  len : zs.length = n * 5
  cell : ∀ i, i < n → 0 ≤ gi zs (i * 5) ∧ gi zs (i * 5) < P.l.length
  time : ∀ i, i < n → 0 ≤ gi zs (i * 5 + 1) ∧ gi zs (i * 5 + 1) ≤ gi zs (i * 5 + 2) ∧ gi zs (i * 5 + 2) ≤ 1000000000
  rise : ∀ i, i < n → 0 ≤ gi zs (i * 5 + 3) ∧ gi zs (i * 5 + 3) ≤ gi zs (i * 5 + 4) ∧ gi zs (i * 5 + 4) ≤ 5000
section
variable {g : Nat} {A : Hp} {V : Value → Hp → Prop} {P : Par} {X ra rs ru rl B2 n : Nat} {ar st su la zs : List Int} {sl : Value}
theorem storeB_int {l : List Int} {r c : Nat} {v : Int} (h : c < l.length) (hg : g ≤ r) : storeB (some (.cells (ints l) false)) g A r c [.int .i64 v] 1 = some (undef, A.set r (some (.cells (ints (l.set c v)) false))) := by
  have := storeB_cells (A := A) (g := g) (k := r) (o := c) (size := 1) (cs := ints l) (vs := [.int .i64 v]) rfl hg (by rw [ints_length]; omega) rfl
  rw [this, setRange_ints h]
def RdLow (A : Hp) (k n b : Nat) (cs : List Value) (sv : Value) : Prop :=
  cs.length = n * k ∧ ((sv = .slice none 0 0 ∧ n = 0) ∨ ∃ x c ro, sv = .slice (some ⟨x, 0, some k⟩) n c ∧ A.get x = some (.cells cs ro) ∧ x < b)
theorem RdLow.keep {A A' : Hp} {k n b : Nat} {cs : List Value} {sv : Value} (h : RdLow A k n b cs sv) (hA : ∀ x, x < b → A'.get x = A.get x) : RdLow A' k n b cs sv := by
  obtain ⟨h0, h | ⟨x, c, ro, h1, h2, h3⟩⟩ := h
  · exact ⟨h0, .inl h⟩
  · exact ⟨h0, .inr ⟨x, c, ro, h1, by rw [hA x h3]; exact h2, h3⟩⟩
theorem RdLow.at {A : Hp} {k n b i : Nat} {cs : List Value} {sv : Value} (h : RdLow A k n b cs sv) (hi : i < n) : ∃ x c ro, sv = .slice (some ⟨x, 0, some k⟩) n c ∧ A.get x = some (.cells cs ro) ∧ x < b := by
  obtain ⟨_, ⟨_, h0⟩ | h⟩ := h
  · omega
  · exact h
theorem RdLow.len {A : Hp} {k n b : Nat} {cs : List Value} {sv : Value} (h : RdLow A k n b cs sv) : lenV sv = some (.int .i64 n) := by
  obtain ⟨_, ⟨rfl, rfl⟩ | ⟨b, c, ro, rfl, _⟩⟩ := h <;> rfl
def AR (ra rs : Nat) (x : Nat) : Prop := x = ra ∨ x = rs
theorem loop84 {D : List Nat} {rd : Option Nat} {Q : Ex → St → Prop} {ar0 st0 : List Int} {A0 : Hp} (hP : POk P) (hz : StartOk P zs n) (hn : n < 1000000) (hgr : g ≤ ra) (hX2 : X < B2) (h20 : B2 < A0.n)
    (hQ : ∀ T' A', Keep (AR ra rs) A0 A' → Sheet A' P X ra rs ru rl ((List.range n).foldl (stA P zs) ar0) ((List.range n).foldl (stS P zs) st0) su la → A'.get B2 = some (.cells [ptrV X] false) → tget T' 2 = ptrV B2 → Q (.exit 0) ⟨T', D, A'⟩) :
    ∀ (k i : Nat) (T : List Value) (A : Hp) (ar st : List Int), i + k = n → Keep (AR ra rs) A0 A → Sheet A P X ra rs ru rl ar st su la → RdLow A 5 n ra (ints zs) sl → A.get B2 = some (.cells [ptrV X] false) →
      ar = (List.range i).foldl (stA P zs) ar0 → st = (List.range i).foldl (stS P zs) st0 → (∀ c, c < P.l.length → 0 ≤ gi ar c) → (∀ c, c < P.l.length → 0 ≤ gi st c) →
      tget T 2 = ptrV B2 → tget T 8 = sl → tget T 9 = .int .i64 n → tget T 10 = .int .i64 i → W AP KL g rd (.loop body84) ⟨T, D, A⟩ Q := by
  intro k
  induction k with
  | zero =>
    intro i T A ar st hi hk hS hr h2 ea es pa ps t2 t8 t9 t10
    have : i = n := by omega
    subst this
    rw [W_loop]
    simp (disch := as_aux_lemma => first | omega | simp only [hDs] <;> omega | simp [isCell]) [hRs, takeMarks, resA, resAll, resOne, Value.cells, body84, t9, t10]
    exact hQ _ A hk (by rw [← ea, ← es]; exact hS) h2 (by simp [t2])
  | succ k ih =>
    intro i T A ar st hi hk hS hr h2 ea es pa ps t2 t8 t9 t10
    obtain ⟨x, cp, ro, hsl, hx, hxa⟩ := hr.at (i := i) (by omega)
    obtain ⟨c, hc⟩ : ∃ c : Nat, gi zs (i * 5) = c := ⟨(gi zs (i * 5)).toNat, by have := hz.cell i (by omega); omega⟩
    have hcl : c < P.l.length := by have := hz.cell i (by omega); omega
    have hzl := hz.len
    have hra := Hp.lt_of_get hS.ha
    have hrs := Hp.lt_of_get hS.hs
    have hXn := Hp.lt_of_get hS.hx
    have hB2 := Hp.lt_of_get h2
    have hxn := Hp.lt_of_get hx
    have ho := hS.ord
    have hzc : stC zs i = c := by unfold stC; rw [hc]; rfl
    have ht := hz.time i (by omega)
    have hris := hz.rise i (by omega)
    obtain ⟨A1, hA1⟩ : ∃ A1, A1 = A.push (.cells [.int .i64 c, .int .i64 (gi zs (i * 5 + 1)), .int .i64 (gi zs (i * 5 + 2)), .int .i64 (gi zs (i * 5 + 3)), .int .i64 (gi zs (i * 5 + 4))] false) := ⟨_, rfl⟩
    have k1 : Ext' A A1 := by rw [hA1]; exact Ext'.push _ _
    have hS1 := hS.ext k1
    have h21 := k1.get h2
    have s1 : A1.get A.n = some (.cells [.int .i64 c, .int .i64 (gi zs (i * 5 + 1)), .int .i64 (gi zs (i * 5 + 2)), .int .i64 (gi zs (i * 5 + 3)), .int .i64 (gi zs (i * 5 + 4))] false) := by rw [hA1]; exact get_push_new
    rw [W_loop]
    simp (disch := as_aux_lemma => first | omega | simp only [hDs] <;> omega | simp [isCell]) [hRs, takeMarks, resA, resAll, resOne, Value.cells, body84, t9, t10, t8, t2, hsl, show ((i : Int) < (n : Int)) by omega, idxSA_ok, hx, ints_5, cellsFrom, hc, ptrV, h2, storeB_cells, setRange_all]
    rw [← hA1]
    refine w63 hS1 hP hcl fun A2 k2 => ?_
    have hS2 := hS1.ext k2
    have h22 := k2.get h21
    have s2 := k2.get s1
    have fin : ∀ (T' : List Value) (A' : Hp), Keep (AR ra rs) A A' → Sheet A' P X ra rs ru rl (stA P zs ar i) (stS P zs st i) su la → tget T' 2 = ptrV B2 → tget T' 8 = sl → tget T' 9 = .int .i64 n → tget T' 10 = .int .i64 (i + 1 : Nat) → W AP KL g rd (.loop body84) ⟨T', D, A'⟩ Q := by
      intro T' A' k hS' q2 q8 q9 q10
      refine ih (i + 1) T' A' _ _ (by omega) (hk.trans k) hS' (hr.keep fun y hy => k.2 y (by omega) (by unfold AR; omega)) ((k.2 B2 hB2 (by unfold AR; omega)).trans h2) ?_ ?_ ?_ ?_ q2 q8 q9 q10
      · rw [List.range_succ, List.foldl_append, ← ea]; rfl
      · rw [List.range_succ, List.foldl_append, ← es]; rfl
      · intro d hd
        unfold stA agE
        split
        · rw [gi_set (by rw [hS.na, hzc]; exact hcl)]
          split
          · have := pa c hcl; rw [hzc]; split <;> omega
          · exact pa d hd
        · exact pa d hd
      · intro d hd
        unfold stS
        split
        · rw [gi_set (by rw [hS.ns, hzc]; exact hcl)]
          split
          · have := ps c hcl; rw [hzc]; omega
          · exact ps d hd
        · exact ps d hd
    by_cases hd : 1 ≤ P.dep c
    · have hX2 := hS2.hx
      simp (disch := as_aux_lemma => first | omega | simp only [hDs] <;> omega | simp [isCell]) [hRs, takeMarks, resA, resAll, resOne, Value.cells, hd, h22, ptrV, hX2, shCells, rowS1, s2, t2, t10, idxSA_ok, hS2.ha, ints_get (show c < ar.length by rw [hS.na]; exact hcl), show (c : Int) < P.l.length by omega]
      refine w90 (b := P.up) (lo := gi zs (i * 5 + 1)) (hi := gi zs (i * 5 + 2)) fun A3 k3 => ?_
      have hS3 := hS2.ext k3
      have ha3 := hS3.ha
      have hr3 := Hp.lt_of_get ha3
      have h23 := k3.get h22
      have s3 := k3.get s2
      have hl3 : (ar.set c (min (gi ar c) (agE P.up (gi zs (i * 5 + 1)) (gi zs (i * 5 + 2))))).length = P.l.length := by rw [List.length_set]; exact hS.na
      have hS4 := hS3.putA hl3
      have eA : stA P zs ar i = ar.set c (min (gi ar c) (agE P.up (gi zs (i * 5 + 1)) (gi zs (i * 5 + 2)))) := by unfold stA; rw [hzc, if_pos hd]
      have c1 : c < ar.length := by rw [hS.na]; exact hcl
      have c2 : c < st.length := by rw [hS.ns]; exact hcl
      simp (disch := as_aux_lemma => first | omega | simp only [hDs] <;> omega | simp [isCell]) [hRs, takeMarks, resA, resAll, resOne, Value.cells, idxSA_ok, ha3, show (c : Int) < P.l.length by omega, storeB_int c1 hgr]
      rw [← eA] at hS4 ⊢
      obtain ⟨A4, hA4⟩ : ∃ A4, A4 = A3.set ra (some (.cells (ints (stA P zs ar i)) false)) := ⟨_, rfl⟩
      rw [← hA4] at hS4 ⊢
      have h24 : A4.get B2 = some (.cells [ptrV X] false) := by rw [hA4, get_set_ne hr3 (by omega)]; exact h23
      have s4 : A4.get A.n = some (.cells [.int .i64 c, .int .i64 (gi zs (i * 5 + 1)), .int .i64 (gi zs (i * 5 + 2)), .int .i64 (gi zs (i * 5 + 3)), .int .i64 (gi zs (i * 5 + 4))] false) := by rw [hA4, get_set_ne hr3 (by omega)]; exact s3
      have hX4 := hS4.hx
      simp (disch := as_aux_lemma => first | omega | simp only [hDs] <;> omega | simp [isCell]) [hRs, takeMarks, resA, resAll, resOne, Value.cells, t2, h24, ptrV, hX4, shCells, rowS1, idxSA_ok, show (c : Int) < P.l.length by omega, hS4.hs, ints_get c2, s4]
      refine w91 (b := P.up) (lo := gi zs (i * 5 + 3)) (hi := gi zs (i * 5 + 4)) fun A5 k5 => ?_
      have hS5 := hS4.ext k5
      have h25 := k5.get h24
      have hX5 := hS5.hx
      simp (disch := as_aux_lemma => first | omega | simp only [hDs] <;> omega | simp [isCell]) [hRs, takeMarks, resA, resAll, resOne, Value.cells, t2, h25, ptrV, hX5, shCells]
      refine w87 hS5 hP hcl fun A6 k6 => ?_
      have hS6 := hS5.ext k6
      have hs6 := hS6.hs
      have hr6 := Hp.lt_of_get hs6
      have hdp := hP.dep hcl
      simp (disch := as_aux_lemma => first | omega | simp only [hDs] <;> omega | simp [isCell]) [hRs, takeMarks, resA, resAll, resOne, Value.cells]
      refine w88 (b := P.up) hd hdp.2 ?_
      have hfb := (fourth_bounds (b := P.up) hd hdp.2).2
      have ho5 : 0 ≤ ofE P.up (gi zs (i * 5 + 3)) (gi zs (i * 5 + 4)) ∧ ofE P.up (gi zs (i * 5 + 3)) (gi zs (i * 5 + 4)) ≤ 5000 := by unfold ofE; split <;> omega
      have hm : 0 ≤ ofE P.up (gi zs (i * 5 + 3)) (gi zs (i * 5 + 4)) * fourthE P.up (P.dep c) ∧ ofE P.up (gi zs (i * 5 + 3)) (gi zs (i * 5 + 4)) * fourthE P.up (P.dep c) ≤ 5000 * 34040 := ⟨Int.mul_nonneg ho5.1 (by omega), Int.mul_le_mul ho5.2 hfb.2 (by omega) (by omega)⟩
      have eS : stS P zs st i = st.set c (max (gi st c) (ofE P.up (gi zs (i * 5 + 3)) (gi zs (i * 5 + 4)) * fourthE P.up (P.dep c))) := by unfold stS; rw [hzc, if_pos hd]
      have hl6 : (stS P zs st i).length = P.l.length := by rw [eS, List.length_set]; exact hS.ns
      have hS7 := hS6.putS hl6
      simp (disch := as_aux_lemma => first | omega | simp only [hDs] <;> omega | simp [isCell]) [hRs, takeMarks, resA, resAll, resOne, Value.cells, idxSA_ok, show (c : Int) < P.l.length by omega, wrId (n := ofE P.up (gi zs (i * 5 + 3)) (gi zs (i * 5 + 4)) * fourthE P.up (P.dep c)) (by omega) (by omega), hs6, storeB_int c2 (show g ≤ rs by omega)]
      rw [← eS]
      obtain ⟨A7, hA7⟩ : ∃ A7, A7 = A6.set rs (some (.cells (ints (stS P zs st i)) false)) := ⟨_, rfl⟩
      rw [← hA7] at hS7 ⊢
      simp (disch := as_aux_lemma => first | omega | simp only [hDs] <;> omega | simp [isCell]) [hRs, takeMarks, resA, resAll, resOne, Value.cells, t2, t10]
      refine fin _ A7 ?_ hS7 (by simp [t2, ptrV]) (by simp [t8, hsl]) (by simp [t9]) (by simp [wrId (n := (i : Int) + 1) (by omega) (by omega)])
      have q3 : Ext' A A3 := (k1.trans k2).trans k3
      have q6 : Ext' A4 A6 := k5.trans k6
      have n4 : A4.n = A3.n := by rw [hA4]; rfl
      have n7 : A7.n = A6.n := by rw [hA7]; rfl
      refine ⟨by have := q3.1; have := q6.1; omega, fun y hy hny => ?_⟩
      unfold AR at hny
      rw [hA7, get_set_ne hr6 (by omega), q6.2 y (by have := q3.1; omega), hA4, get_set_ne hr3 (by omega), q3.2 y hy]
    · have e1 : stA P zs ar i = ar := by unfold stA; rw [hzc, if_neg hd]
      have e2 : stS P zs st i = st := by unfold stS; rw [hzc, if_neg hd]
      simp (disch := as_aux_lemma => first | omega | simp only [hDs] <;> omega | simp [isCell]) [hRs, takeMarks, resA, resAll, resOne, Value.cells, hd, t2, t10]
      refine fin _ A2 ((k1.trans k2).keep _) (by rw [e1, e2]; exact hS2) (by simp [t2]) (by simp [t8, hsl]) (by simp [t9]) (by simp [wrId (n := (i : Int) + 1) (by omega) (by omega)])
end
end Go.Ab.Wave
namespace Go.Ab.Wave
open Go Go.Ab
def Stl.pl (S : Stl) : Stl := { S with rv := 0, rl := 0, stepF := .func (.func 0) ⟨[]⟩ ⟨[]⟩, Inv := fun _ _ _ => True }
theorem Stl.Der.pl {S : Stl} {vs0 : List Int} {b : Nat} {v : Int} (h : S.Der vs0 b v) : S.pl.Der vs0 b v := by
  induction h with
  | init hb => exact .init (S := S.pl) hb
  | step ha _ hb hs ih => exact .step (S := S.pl) ha ih hb hs
theorem Stl.Fin.pl {S : Stl} {vs0 la0 vs la : List Int} (h : S.Fin vs0 la0 vs la) : S.pl.Fin vs0 la0 vs la :=
  ⟨⟨h.mid.nv, h.mid.nl, h.mid.val, fun b hb => (h.mid.der b hb).pl, fun b hb => (h.mid.land b hb).imp id fun ⟨a, v, h1, h2, h3⟩ => ⟨a, v, h1, h2.pl, h3⟩, h.mid.qlt, h.mid.glob, h.mid.imp, h.mid.lge⟩, h.cl⟩
def Stl.FinV (S : Stl) (vs0 vs : List Int) : Prop := S.Fin vs0 vs0 vs vs0
theorem Stl.Fin.toV {S : Stl} {vs0 la0 vs la : List Int} (h : S.Fin vs0 la0 vs la) (hl : S.lf = false) (hn : vs0.length = S.n) : S.FinV vs0 vs :=
  ⟨⟨h.mid.nv, hn, h.mid.val, h.mid.der, fun b hb => .inl rfl, h.mid.qlt, h.mid.glob, h.mid.imp, fun _ => Int.le_refl _⟩, fun c d hc hd hs => ⟨(h.cl c d hc hd hs).1, fun e => by rw [hl] at e; cases e⟩⟩
structure StlMon (S : Stl) : Prop where
  mono : ∀ a b u v, a < S.n → b ∈ S.nb a → S.Val a v → S.key v ≤ S.key u → (S.sp a b u).2 = true → ((S.sp a b v).2 = true ∧ S.key (S.sp a b v).1 ≤ S.key (S.sp a b u).1) ∨ (S.lf = false ∧ ∀ w, S.Val b w → S.key w ≤ S.key (S.sp a b u).1)
  neg : S.lf = true → S.neg = true
  lt : ∀ a b, b ∈ S.nb a → b < S.n
theorem Stl.Fin.least' {S : Stl} {vs0 la0 vs la : List Int} (M : StlMon S) (h : S.Fin vs0 la0 vs la) : ∀ {b : Nat} {v : Int}, S.Der vs0 b v → S.key (gi vs b) ≤ S.key v := by
  intro b v hd
  induction hd with
  | init hb => exact h.mid.imp _ hb
  | @step a b v ha _ hb hs ih =>
    rcases M.mono a b v _ ha hb (h.mid.val _ ha) ih hs with ⟨k1, k2⟩ | ⟨_, k⟩
    · have := (h.cl _ _ ha hb k1).1
      omega
    · exact k _ (h.mid.val _ (M.lt _ _ hb))
theorem gi_ext {a b : List Int} {n : Nat} (ha : a.length = n) (hb : b.length = n) (h : ∀ i, i < n → gi a i = gi b i) : a = b := by
  apply List.ext_getElem (by omega)
  intro i h1 h2
  have := h i (by omega)
  rwa [gi_eq h1, gi_eq h2] at this
theorem Stl.key_inj {S : Stl} {u v : Int} (h : S.key u = S.key v) : u = v := by
  unfold Stl.key at h
  split at h <;> omega
theorem Stl.Fin.uniq {S : Stl} {vs0 la0 vs la vs' la' : List Int} (M : StlMon S) (h : S.Fin vs0 la0 vs la) (h' : S.Fin vs0 la0 vs' la') : vs = vs' ∧ (S.lf = true → la = la') := by
  have e : vs = vs' := gi_ext h.mid.nv h'.mid.nv fun b hb => Stl.key_inj (S := S) (by
    have := h.least' M (h'.mid.der b hb)
    have := h'.least' M (h.mid.der b hb)
    omega)
  subst e
  have le : S.lf = true → ∀ {la la'}, S.Fin vs0 la0 vs la → S.Fin vs0 la0 vs la' → ∀ b, b < S.n → gi la b ≤ gi la' b := by
    intro hl la la' h h' b hb
    rcases h.mid.land b hb with e | ⟨a, v, ha, hd, hnb, hs, e⟩
    · rw [e]; exact h'.mid.lge b
    · rw [e]
      rcases M.mono a b v _ ha hnb (h'.mid.val a ha) (h'.least' M hd) hs with ⟨k1, k2⟩ | ⟨k, _⟩
      · have := (h'.cl a b ha hnb k1).2 hl
        unfold Stl.key at k2
        rw [if_pos (M.neg hl), if_pos (M.neg hl)] at k2
        omega
      · rw [hl] at k; cases k
  refine ⟨rfl, fun hl => gi_ext h.mid.nl h'.mid.nl fun b hb => ?_⟩
  have := le hl h h' b hb
  have := le hl h' h b hb
  omega
open Classical in
noncomputable def Stl.out (S : Stl) (vs0 la0 : List Int) : List Int × List Int := if h : ∃ p : List Int × List Int, S.Fin vs0 la0 p.1 p.2 then Classical.choose h else ([], [])
theorem Stl.Fin.out {S : Stl} {vs0 la0 vs la : List Int} (M : StlMon S) (h : S.Fin vs0 la0 vs la) : vs = (S.out vs0 la0).1 ∧ (S.lf = true → la = (S.out vs0 la0).2) := by
  have he : ∃ p : List Int × List Int, S.Fin vs0 la0 p.1 p.2 := ⟨(vs, la), h⟩
  unfold Stl.out
  rw [dif_pos he]
  exact h.uniq M (Classical.choose_spec he)
theorem Stl.mid0 {S : Stl} {vs0 la0 : List Int} (nv : vs0.length = S.n) (nl : la0.length = S.n) (hv : ∀ b, b < S.n → S.Val b (gi vs0 b)) (hg : S.G vs0) : S.Mid vs0 la0 vs0 la0 [] :=
  ⟨nv, nl, hv, fun b hb => .init hb, fun b hb => .inl rfl, fun c hc => absurd hc List.not_mem_nil, hg, fun _ _ => Int.le_refl _, fun _ => Int.le_refl _⟩
def PA (P : Par) : Stl := (SA P 0 0 0 0 0 0 0 [] [] [] ⟨0, []⟩).pl
def PS (P : Par) : Stl := (SS P 0 0 0 0 0 0 0 [] [] [] ⟨0, []⟩).pl
theorem PA_mon {P : Par} (hP : POk P) : StlMon (PA P) := by
  refine ⟨fun a b u v ha hb hv hk hs => ?_, fun h => (by cases h), fun a b hb => nb_lt hP hb⟩
  obtain ⟨h1, h2, h3⟩ := spA_true hs
  have hv' : 0 ≤ v ∧ v ≤ Never := hv
  have hk' : v ≤ u := hk
  have hcr := hP.cross (open_dep h1).1 (open_dep h1).2
  by_cases hvn : v = Never
  · refine .inr ⟨rfl, fun w hw => ?_⟩
    have hw' : 0 ≤ w ∧ w ≤ Never := hw
    show w ≤ (P.spA a b u).1
    rw [h3]; omega
  · refine .inl ?_
    have e : (PA P).sp a b v = (v + P.cross a b, true) := by show P.spA a b v = _; unfold Par.spA; rw [if_pos ⟨h1, hvn⟩]
    rw [e]
    refine ⟨rfl, ?_⟩
    show v + P.cross a b ≤ (P.spA a b u).1
    rw [h3]; omega
theorem dv_mono {b : Bool} {x y z : Int} (h : x ≤ y) (hx : 0 ≤ x) (hz : 0 < z) : dv b x z ≤ dv b y z := by
  unfold dv upI
  cases b
  · simp only [Bool.false_eq_true, if_false]
    rw [Int.tdiv_eq_ediv_of_nonneg hx, Int.tdiv_eq_ediv_of_nonneg (by omega)]
    exact Int.ediv_le_ediv hz h
  · simp only [if_true]
    rw [Int.tdiv_eq_ediv_of_nonneg (by omega), Int.tdiv_eq_ediv_of_nonneg (by omega)]
    exact Int.ediv_le_ediv hz (by omega)
theorem PS_mon {P : Par} (hP : POk P) : StlMon (PS P) := by
  refine ⟨fun a b u v ha hb hv hk hs => ?_, fun h => (by cases h), fun a b hb => nb_lt hP hb⟩
  have hv' : 0 ≤ v ∧ v ≤ 200000000 := hv
  have hk' : -v ≤ -u := hk
  have hs' : (P.spS a b u).2 = true := hs
  unfold Par.spS at hs'
  simp only [Bool.and_eq_true, decide_eq_true_eq] at hs'
  have hkp := hP.keep
  have hof : 1 ≤ ofE P.up P.k0 P.k1 := by unfold ofE; split <;> omega
  refine .inl ⟨?_, ?_⟩
  · show (P.spS a b v).2 = true
    unfold Par.spS
    simp only [Bool.and_eq_true, decide_eq_true_eq]
    exact ⟨hs'.1, by omega⟩
  · show -(P.spS a b v).1 ≤ -(P.spS a b u).1
    have := dv_mono (b := P.up) (x := u * ofE P.up P.k0 P.k1) (y := v * ofE P.up P.k0 P.k1) (z := 1024) (Int.mul_le_mul_of_nonneg_right (by omega) (by omega)) (Int.mul_nonneg (by omega) (by omega)) (by omega)
    unfold Par.spS
    simp only
    omega
def arr0 (P : Par) (zs : List Int) (n : Nat) : List Int := (List.range n).foldl (stA P zs) (List.replicate P.l.length Never)
def str0 (P : Par) (zs : List Int) (n : Nat) : List Int := (List.range n).foldl (stS P zs) (List.replicate P.l.length 0)
theorem gi_replicate {n i : Nat} {v : Int} (h : i < n) : gi (List.replicate n v) i = v := by
  rw [gi_eq (by simpa using h)]; simp
theorem arr0_ok {P : Par} {zs : List Int} {n : Nat} (hz : StartOk P zs n) : ∀ k, k ≤ n → (arr0 P zs k).length = P.l.length ∧ ∀ c, c < P.l.length → (0 ≤ gi (arr0 P zs k) c ∧ gi (arr0 P zs k) c ≤ Never) ∧ (gi (arr0 P zs k) c < Never → gi (arr0 P zs k) c ≤ 1000000000) := by
  intro k
  induction k with
  | zero =>
    intro _
    refine ⟨by simp [arr0], fun c hc => ?_⟩
    have : gi (arr0 P zs 0) c = Never := gi_replicate hc
    rw [this]
    refine ⟨by unfold Never; omega, fun h => by omega⟩
  | succ k ih =>
    intro hk
    obtain ⟨h1, h2⟩ := ih (by omega)
    have e : arr0 P zs (k + 1) = stA P zs (arr0 P zs k) k := by unfold arr0; rw [List.range_succ, List.foldl_append]; rfl
    have ht := hz.time k (by omega)
    have hc := hz.cell k (by omega)
    have hcl : stC zs k < P.l.length := by unfold stC; omega
    rw [e]
    unfold stA agE
    split
    · refine ⟨by rw [List.length_set]; exact h1, fun c hc => ?_⟩
      have p1 := h2 c hc
      have p2 := h2 _ hcl
      have : (1000000000 : Int) < Never := by unfold Never; omega
      rw [gi_set (by omega)]
      split
      · split <;> omega
      · exact p1
    · exact ⟨h1, h2⟩
theorem str0_ok {P : Par} {zs : List Int} {n : Nat} (hP : POk P) (hz : StartOk P zs n) : ∀ k, k ≤ n → (str0 P zs k).length = P.l.length ∧ ∀ c, c < P.l.length → 0 ≤ gi (str0 P zs k) c ∧ gi (str0 P zs k) c ≤ 200000000 := by
  intro k
  induction k with
  | zero =>
    intro _
    refine ⟨by simp [str0], fun c hc => ?_⟩
    have : gi (str0 P zs 0) c = 0 := gi_replicate hc
    rw [this]; omega
  | succ k ih =>
    intro hk
    obtain ⟨h1, h2⟩ := ih (by omega)
    have e : str0 P zs (k + 1) = stS P zs (str0 P zs k) k := by unfold str0; rw [List.range_succ, List.foldl_append]; rfl
    have hri := hz.rise k (by omega)
    have hc := hz.cell k (by omega)
    have hcl : stC zs k < P.l.length := by unfold stC; omega
    rw [e]
    unfold stS
    split
    · rename_i hd
      have hdp := hP.dep hcl
      have hfb := (fourth_bounds (b := P.up) hd hdp.2).2
      have ho5 : 0 ≤ ofE P.up (gi zs (k * 5 + 3)) (gi zs (k * 5 + 4)) ∧ ofE P.up (gi zs (k * 5 + 3)) (gi zs (k * 5 + 4)) ≤ 5000 := by unfold ofE; split <;> omega
      have hm : 0 ≤ ofE P.up (gi zs (k * 5 + 3)) (gi zs (k * 5 + 4)) * fourthE P.up (P.dep (stC zs k)) ∧ ofE P.up (gi zs (k * 5 + 3)) (gi zs (k * 5 + 4)) * fourthE P.up (P.dep (stC zs k)) ≤ 5000 * 34040 := ⟨Int.mul_nonneg ho5.1 (by omega), Int.mul_le_mul ho5.2 hfb.2 (by omega) (by omega)⟩
      refine ⟨by rw [List.length_set]; exact h1, fun c hc => ?_⟩
      have p1 := h2 c hc
      have p2 := h2 _ hcl
      rw [gi_set (by omega)]
      split
      · omega
      · exact p1
    · exact ⟨h1, h2⟩
noncomputable def arrF (P : Par) (zs : List Int) (n : Nat) : List Int := ((PA P).out (arr0 P zs n) (arr0 P zs n)).1
noncomputable def strF (P : Par) (zs : List Int) (n : Nat) : List Int := ((PS P).out (str0 P zs n) (str0 P zs n)).1
end Go.Ab.Wave
namespace Go.Ab.Wave
open Go Go.Ab
theorem POk.pos {P : Par} (h : POk P) : 0 < P.l.length := by
  obtain ⟨hw, hh, _, hl⟩ := check_parts h.chk
  have := Int.mul_le_mul hw.1 hh.1 (by omega) (by omega)
  omega
theorem GA0 {P : Par} {zs : List Int} {n : Nat} (hz : StartOk P zs n) : GA 1000000000 32000000 (arr0 P zs n) := by
  intro x hx hN
  have h := arr0_ok hz n (Nat.le_refl _)
  rw [h.1] at hx
  have := (h.2 x hx).2 hN
  have : 0 ≤ (fin (arr0 P zs n) : Int) * 32000000 := Int.mul_nonneg (by omega) (by omega)
  omega
theorem potA {P : Par} {zs : List Int} {n : Nat} (hP : POk P) (hz : StartOk P zs n) {S : Stl} (hr : S.rank = rankA 2300000000) : S.pot (arr0 P zs n) ≤ 40 * 2300000000 := by
  have h := arr0_ok hz n (Nat.le_refl _)
  have hs := hP.small
  have hle := sum_le (f := S.rank) (R := 2300000000) (l := arr0 P zs n) (by
    rw [hr]
    exact GA_rank (T0 := 1000000000) (CR := 32000000) (by omega) (GA0 hz) (by rw [h.1]; omega))
  unfold Stl.pot
  rw [h.1] at hle
  exact Nat.le_trans hle (Nat.mul_le_mul hs (Nat.le_refl _))
theorem potS {P : Par} {zs : List Int} {n : Nat} (hP : POk P) (hz : StartOk P zs n) {S : Stl} (hr : S.rank = fun v => (200000000 - v).toNat) : S.pot (str0 P zs n) ≤ 40 * 200000000 := by
  have h := str0_ok hP hz n (Nat.le_refl _)
  have hs := hP.small
  have hle := sum_le (f := S.rank) (R := 200000000) (l := str0 P zs n) (by
    intro v hv
    obtain ⟨i, hi, he⟩ := List.mem_iff_getElem.1 hv
    rw [h.1] at hi
    have := h.2 i hi
    rw [gi_eq (by omega), he] at this
    rw [hr]
    show (200000000 - v).toNat ≤ _
    omega)
  unfold Stl.pot
  rw [h.1] at hle
  exact Nat.le_trans hle (Nat.mul_le_mul hs (Nat.le_refl _))
section
variable {g : Nat} {A : Hp} {V : Value → Hp → Prop} {P : Par} {X ra rs ru rl n : Nat} {su la zs : List Int} {sl : Value}
theorem w84 (hS : Sheet A P X ra rs ru rl (List.replicate P.l.length Never) (List.replicate P.l.length 0) su la) (hP : POk P) (hz : StartOk P zs n) (hn : n < 1000000) (hgr : g ≤ ra) (hr : RdLow A 5 n ra (ints zs) sl)
    (hQ : ∀ A', Keep (KP ra rs ru rl) A A' → Sheet A' P X ra rs ru rl (arrF P zs n) (strF P zs n) su la → (PA P).FinV (arr0 P zs n) (arrF P zs n) → (PS P).FinV (str0 P zs n) (strF P zs n) → V (.tuple ⟨[]⟩) A') :
    WF AP KL g 84 [ptrV X, sl] A V := by
  have hX := Hp.lt_of_get hS.hx
  have hlen := hr.len
  have ho := hS.ord
  have hsm := hP.small
  obtain ⟨B, hB⟩ : ∃ B, B = A.push (.cells [ptrV X] false) := ⟨_, rfl⟩
  have kB : Ext' A B := by rw [hB]; exact Ext'.push _ _
  have hB2 : B.get A.n = some (.cells [ptrV X] false) := by rw [hB]; exact get_push_new
  have hBn : B.n = A.n + 1 := by rw [hB]; rfl
  rw [WF_body rfl (show AP 84 = some F84 from rfl)]
  simp (disch := as_aux_lemma => first | omega | simp only [hDs] <;> omega | simp [isCell]) [hRs, takeMarks, resA, resAll, resOne, Value.cells, hlen, ptrV]
  have hB' := hB
  simp only [ptrV] at hB'
  rw [← hB']
  refine loop84 (A0 := B) (B2 := A.n) (su := su) (la := la) (ar0 := List.replicate P.l.length Never) (st0 := List.replicate P.l.length 0) hP hz hn hgr hX (by omega) (fun T' A1 k1 hS1 h21 t2 => ?_) n 0 _ B _ _ (by omega) (Keep.refl _ _) (hS.ext kB) (hr.keep fun x hx => kB.2 x (by omega)) hB2 rfl rfl (fun c hc => ?_) (fun c hc => ?_) ?_ ?_ ?_ ?_
  · have kk1 : Keep (KP ra rs ru rl) A A1 := (kB.keep _).trans (k1.mono fun x hx => hx.elim .inl fun h => .inr (.inl h))
    have hn1 := k1.1
    obtain ⟨A2, hA2⟩ : ∃ A2, A2 = A1.push (.cells [openF A.n] false) := ⟨_, rfl⟩
    have k2 : Ext' A1 A2 := by rw [hA2]; exact Ext'.push _ _
    have hS2 := hS1.ext k2
    have h22 := k2.get h21
    have h72 : A2.get A1.n = some (.cells [openF A.n] false) := by rw [hA2]; exact get_push_new
    have hA2n : A2.n = A1.n + 1 := by rw [hA2]; rfl
    have hX2 := hS2.hx
    have hX1 := hS1.hx
    simp (disch := as_aux_lemma => first | omega | simp only [hDs] <;> omega | simp [isCell]) [hRs, takeMarks, resA, resAll, resOne, Value.cells, t2, ptrV, storeB_cells, setRange_all, h21, hX1, shCells]
    rw [show A1.push (.cells [.func (.func 94) ⟨[]⟩ ⟨[.pointer (some ⟨A.n, 0, none⟩)]⟩] false) = A2 from hA2.symm]
    have hpos : SPos P X ra rs ru rl A.n A1.n A2.n g := ⟨hX, by omega, by omega, by omega, hgr, ho⟩
    have a0 := arr0_ok hz n (Nat.le_refl _)
    have s0 := str0_ok hP hz n (Nat.le_refl _)
    refine w95 (S := SA P X ra rs ru rl A.n A1.n (str0 P zs n) su la A2) (P := P) (X := X) (vs0 := arr0 P zs n) (la0 := la) (SA_ok hP (Nat.le_refl _) hpos (by omega)) ⟨rfl, hS2, h22, h72, Keep.refl _ _⟩ (Stl.mid0 a0.1 hS.nl (fun b hb => (a0.2 b hb).1) (GA0 hz)) hP.pos (by show P.l.length < 1000; omega) ?_ fun A3 vs la' hI hF hn3 => ?_
    · have := potA hP hz (S := SA P X ra rs ru rl A.n A1.n (str0 P zs n) su la A2) rfl
      show 2 * _ + P.l.length < _
      omega
    · obtain ⟨rfl, hS3, h23, h73, k3⟩ := hI
      have hFA : (PA P).FinV (arr0 P zs n) vs := Stl.Fin.toV (S := PA P) hF.pl rfl a0.1
      have eA : vs = arrF P zs n := (hFA.out (PA_mon hP)).1
      have hX3 := hS3.hx
      simp (disch := as_aux_lemma => first | omega | simp only [hDs] <;> omega | simp [isCell]) [hRs, takeMarks, resA, resAll, resOne, Value.cells, t2, ptrV, h23, hX3, shCells]
      have hpos' : SPos P X ra rs ru rl A.n A1.n A3.n g := ⟨hX, by omega, by omega, by omega, hgr, ho⟩
      refine w95 (S := SS P X ra rs ru rl A.n A1.n vs su la' A3) (P := P) (X := X) (vs0 := str0 P zs n) (la0 := la') (SS_ok hP (Nat.le_refl _) hpos' (by omega)) ⟨rfl, hS3, h23, h73, Keep.refl _ _⟩ (Stl.mid0 s0.1 hS.nl (fun b hb => s0.2 b hb) trivial) hP.pos (by show P.l.length < 1000; omega) ?_ fun A4 vs4 la4 hI4 hF4 hn4 => ?_
      · have := potS hP hz (S := SS P X ra rs ru rl A.n A1.n vs su la' A3) rfl
        show 2 * _ + P.l.length < _
        omega
      · obtain ⟨rfl, hS4, h24, h74, k4⟩ := hI4
        have hFS : (PS P).FinV (str0 P zs n) vs4 := Stl.Fin.toV (S := PS P) hF4.pl rfl s0.1
        have eS : vs4 = strF P zs n := (hFS.out (PS_mon hP)).1
        subst eA eS
        simp (disch := as_aux_lemma => first | omega | simp only [hDs] <;> omega | simp [isCell]) [hRs, takeMarks, resA, resAll, resOne, Value.cells]
        exact hQ A4 (((kk1.trans (k2.keep _)).trans k3).trans k4) hS4 hFA hFS
  · rw [gi_replicate hc]; unfold Never; omega
  · rw [gi_replicate hc]; omega
  all_goals simp [ptrV]
end
end Go.Ab.Wave
namespace Go.Ab.Wave
open Go Go.Ab
def overF (B1 : Nat) : Value := .func (.func 102) ⟨[]⟩ ⟨[ptrV B1]⟩
def Par.spU (P : Par) (a b : Nat) (v : Int) : Int × Bool :=
  (v - agE P.up P.o0 P.o1, (!decide (v = -Never)) && (decide (P.lst b ≤ 0) && decide (agE P.up (P.glo b) (P.ghi b) < v - agE P.up P.o0 P.o1)))
def Par.spL (P : Par) (su : List Int) (a b : Nat) (t : Int) : Int × Bool := (t + agE P.up P.l0 P.l1 * P.s, (P.spU a b (gi su a)).2)
section
variable {g : Nat} {A : Hp} {V : Value → Hp → Prop} {P : Par} {X ra rs ru rl : Nat} {ar st su la : List Int} {a b : Nat}
def SurfV (v : Int) : Prop := v = -Never ∨ (-1200000 ≤ v ∧ v ≤ 200020000)
theorem w102 {B1 : Nat} (hS : Sheet A P X ra rs ru rl ar st su la) (hP : POk P) (ha : a < P.l.length) (hb : b < P.l.length) (h1 : A.get B1 = some (.cells [ptrV X] false)) (hv : SurfV (gi su a))
    (hQ : ∀ A', Ext' A A' → V (.tuple ⟨[.int .i64 (P.spU a b (gi su a)).1, .bool (P.spU a b (gi su a)).2]⟩) A') :
    WF AP KL g 102 [.int .i64 a, .int .i64 b, ptrV B1] A V := by
  have hX := hS.hx
  have hu := hS.hu
  have hlo := hP.loss
  have ha' : a < su.length := by rw [hS.nu]; exact ha
  have hag : 0 ≤ agE P.up P.o0 P.o1 ∧ agE P.up P.o0 P.o1 ≤ 1000 := by unfold agE; split <;> omega
  have hb2 : -1099511627776 ≤ gi su a ∧ gi su a ≤ 200020000 := by rcases hv with h | h <;> (try unfold Never at h) <;> omega
  rw [WF_body rfl (show AP 102 = some F102 from rfl)]
  simp (disch := as_aux_lemma => first | omega | simp only [hDs] <;> omega | simp [isCell]) [hRs, takeMarks, resA, resAll, resOne, Value.cells, ptrV, h1, hX, shCells, rowS1, idxSA_ok, show (a : Int) < P.l.length by omega, hu, ints_get ha']
  refine w90 fun A1 k1 => ?_
  have hX1 := k1.get hX
  have hu1 := k1.get hu
  have h11 := k1.get h1
  have hS1 := hS.ext k1
  simp (disch := as_aux_lemma => first | omega | simp only [hDs] <;> omega | simp [isCell]) [hRs, takeMarks, resA, resAll, resOne, Value.cells, ptrV, h11, hX1, shCells, rowS1, idxSA_ok, show (a : Int) < P.l.length by omega, hu1, ints_get ha', wrId (n := gi su a - agE P.up P.o0 P.o1) (by omega) (by omega)]
  by_cases hn : gi su a = -1099511627776
  · simp (disch := as_aux_lemma => first | omega | simp only [hDs] <;> omega | simp [isCell]) [hRs, takeMarks, resA, resAll, resOne, Value.cells, hn]
    have := hQ A1 k1
    simpa [Par.spU, hn, Never] using this
  · simp (disch := as_aux_lemma => first | omega | simp only [hDs] <;> omega | simp [isCell]) [hRs, takeMarks, resA, resAll, resOne, Value.cells, ptrV, hn, h11]
    refine w103 hS1 hP hb fun A2 k2 => ?_
    have hS2 := hS1.ext k2
    have hX2 := hS2.hx
    have h12 := k2.get h11
    have hgl : (flat2 P.l).length = P.l.length * 2 := flat2_length _
    obtain ⟨x, xc, xr, hsl, hx⟩ := (rd_ground hS2.hg).at hb
    by_cases hl : P.lst b ≤ 0
    · simp (disch := as_aux_lemma => first | omega | simp only [hDs] <;> omega | simp [isCell]) [hRs, takeMarks, resA, resAll, resOne, Value.cells, ptrV, hl, h12, hX2, shCells, hsl, idxSA_ok, show (b : Int) < P.l.length by omega, hx, ints_two]
      refine w90 fun A3 k3 => ?_
      simp (disch := as_aux_lemma => first | omega | simp only [hDs] <;> omega | simp [isCell]) [hRs, takeMarks, resA, resAll, resOne, Value.cells]
      have := hQ A3 ((k1.trans k2).trans k3)
      simp [Par.spU, hn, Never, hl, Par.glo, Par.ghi] at this
      exact this
    · simp (disch := as_aux_lemma => first | omega | simp only [hDs] <;> omega | simp [isCell]) [hRs, takeMarks, resA, resAll, resOne, Value.cells, hl]
      have := hQ A2 (k1.trans k2)
      simpa [Par.spU, hn, Never, hl] using this
theorem w104 {B1 B4 : Nat} (hS : Sheet A P X ra rs ru rl ar st su la) (hP : POk P) (ha : a < P.l.length) (hb : b < P.l.length) (h1 : A.get B1 = some (.cells [ptrV X] false)) (h4 : A.get B4 = some (.cells [overF B1] false)) (hv : SurfV (gi su a)) (hg : g ≤ rl) {v : Value}
    (hQ : ∀ A', Keep (fun x => x = rl) A A' → Sheet A' P X ra rs ru rl ar st su (if (P.spU a b (gi su a)).2 then la.set b (max (gi la b) (P.spU a b (gi su a)).1) else la) → V (.tuple ⟨[.int .i64 (P.spU a b (gi su a)).1, .bool (P.spU a b (gi su a)).2]⟩) A') :
    WF AP KL g 104 [.int .i64 a, .int .i64 b, v, ptrV B4, ptrV B1] A V := by
  have hb' : b < la.length := by rw [hS.nl]; exact hb
  rw [WF_body rfl (show AP 104 = some F104 from rfl)]
  simp (disch := as_aux_lemma => first | omega | simp only [hDs] <;> omega | simp [isCell]) [hRs, takeMarks, resA, resAll, resOne, Value.cells, ptrV, h4, overF]
  refine w102 hS hP ha hb h1 hv fun A1 k1 => ?_
  have hS1 := hS.ext k1
  have h11 := k1.get h1
  have hX1 := hS1.hx
  have hl1 := hS1.hl
  have hr1 := Hp.lt_of_get hl1
  cases hs : (P.spU a b (gi su a)).2
  · simp (disch := as_aux_lemma => first | omega | simp only [hDs] <;> omega | simp [isCell]) [hRs, takeMarks, resA, resAll, resOne, Value.cells, hs]
    rw [hs] at hQ
    exact hQ A1 (k1.keep _) hS1
  · simp (disch := as_aux_lemma => first | omega | simp only [hDs] <;> omega | simp [isCell]) [hRs, takeMarks, resA, resAll, resOne, Value.cells, hs, ptrV, h11, hX1, shCells, rowS1, idxSA_ok, show (b : Int) < P.l.length by omega, hl1, ints_get hb', storeB_int hb' hg]
    rw [hs] at hQ
    exact hQ _ ((k1.keep _).trans ⟨Nat.le_refl _, fun x hx hn => get_set_ne hr1 hn⟩) (hS1.putL (by rw [List.length_set]; exact hS.nl))
theorem w105 {B1 B4 : Nat} {t : Int} (hS : Sheet A P X ra rs ru rl ar st su la) (hP : POk P) (ha : a < P.l.length) (hb : b < P.l.length) (h1 : A.get B1 = some (.cells [ptrV X] false)) (h4 : A.get B4 = some (.cells [overF B1] false)) (hv : SurfV (gi su a)) (ht : 0 ≤ t ∧ t ≤ Never)
    (hQ : ∀ A', Ext' A A' → V (.tuple ⟨[.int .i64 (P.spL su a b t).1, .bool (P.spL su a b t).2]⟩) A') :
    WF AP KL g 105 [.int .i64 a, .int .i64 b, .int .i64 t, ptrV B4, ptrV B1] A V := by
  have hla := hP.land
  have hag : 10 ≤ agE P.up P.l0 P.l1 ∧ agE P.up P.l0 P.l1 ≤ 100000 := by unfold agE; split <;> omega
  obtain ⟨_, _, hsz, _⟩ := check_parts hP.chk
  have hm : 0 ≤ agE P.up P.l0 P.l1 * P.s ∧ agE P.up P.l0 P.l1 * P.s ≤ 100000 * 10000 := ⟨Int.mul_nonneg (by omega) (by omega), Int.mul_le_mul hag.2 hsz.2 (by omega) (by omega)⟩
  unfold Never at ht
  rw [WF_body rfl (show AP 105 = some F105 from rfl)]
  simp (disch := as_aux_lemma => first | omega | simp only [hDs] <;> omega | simp [isCell]) [hRs, takeMarks, resA, resAll, resOne, Value.cells, ptrV, h4, overF]
  refine w102 hS hP ha hb h1 hv fun A1 k1 => ?_
  have hS1 := hS.ext k1
  have h11 := k1.get h1
  have hX1 := hS1.hx
  simp (disch := as_aux_lemma => first | omega | simp only [hDs] <;> omega | simp [isCell]) [hRs, takeMarks, resA, resAll, resOne, Value.cells, ptrV, h11, hX1, shCells]
  refine w90 fun A2 k2 => ?_
  have h12 := k2.get h11
  have hX2 := k2.get hX1
  simp (disch := as_aux_lemma => first | omega | simp only [hDs] <;> omega | simp [isCell]) [hRs, takeMarks, resA, resAll, resOne, Value.cells, ptrV, h12, hX2, shCells, wrId (n := agE P.up P.l0 P.l1 * P.s) (by omega) (by omega), wrId (n := t + agE P.up P.l0 P.l1 * P.s) (by omega) (by omega)]
  exact hQ A2 (k1.trans k2)
end
end Go.Ab.Wave
namespace Go.Ab.Wave
open Go Go.Ab
def rankU (v : Int) : Nat := if v = -Never then 300000000 else (200020000 - v).toNat
def SU (P : Par) (X ra rs ru rl B1 B4 : Nat) (ar st : List Int) (A0 : Hp) : Stl where
  n := P.l.length
  rv := ru
  rl := rl
  stepF := .func (.func 104) ⟨[]⟩ ⟨[ptrV B4, ptrV B1]⟩
  neg := true
  lf := true
  sp := P.spU
  Inv vs la A := Sheet A P X ra rs ru rl ar st vs la ∧ A.get B1 = some (.cells [ptrV X] false) ∧ A.get B4 = some (.cells [overF B1] false) ∧ Keep (KP ra rs ru rl) A0 A
  Val _ v := SurfV v
  nb := nbP P
  rank := rankU
  G _ := True
def SL (P : Par) (X ra rs ru rl B1 B4 : Nat) (st su la0 : List Int) (A0 : Hp) : Stl where
  n := P.l.length
  rv := ra
  rl := rl
  stepF := .func (.func 105) ⟨[]⟩ ⟨[ptrV B4, ptrV B1]⟩
  neg := false
  lf := false
  sp := P.spL su
  Inv vs la A := la = la0 ∧ Sheet A P X ra rs ru rl vs st su la0 ∧ A.get B1 = some (.cells [ptrV X] false) ∧ A.get B4 = some (.cells [overF B1] false) ∧ Keep (KP ra rs ru rl) A0 A
  Val _ v := 0 ≤ v ∧ v ≤ Never
  nb := nbP P
  rank := rankA 43000000000
  G := GA 2280000000 1000000000
theorem spU_true {P : Par} {a b : Nat} {v : Int} (h : (P.spU a b v).2 = true) : v ≠ -Never ∧ P.lst b ≤ 0 ∧ agE P.up (P.glo b) (P.ghi b) < v - agE P.up P.o0 P.o1 := by
  unfold Par.spU at h
  simpa using h
theorem POk.lossE {P : Par} (hP : POk P) : 0 ≤ agE P.up P.o0 P.o1 ∧ agE P.up P.o0 P.o1 ≤ 1000 := by
  have := hP.loss
  unfold agE; split <;> omega
theorem POk.landE {P : Par} (hP : POk P) : 0 ≤ agE P.up P.l0 P.l1 * P.s ∧ agE P.up P.l0 P.l1 * P.s ≤ 1000000000 := by
  have hla := hP.land
  have hag : 10 ≤ agE P.up P.l0 P.l1 ∧ agE P.up P.l0 P.l1 ≤ 100000 := by unfold agE; split <;> omega
  obtain ⟨_, _, hsz, _⟩ := check_parts hP.chk
  exact ⟨Int.mul_nonneg (by omega) (by omega), Int.mul_le_mul hag.2 hsz.2 (by omega) (by omega)⟩
theorem spU_val {P : Par} (hP : POk P) {a b : Nat} (hb : b < P.l.length) {v : Int} (hv : SurfV v) (h : (P.spU a b v).2 = true) : -1200000 ≤ (P.spU a b v).1 ∧ (P.spU a b v).1 ≤ 200020000 := by
  obtain ⟨h1, h2, h3⟩ := spU_true h
  have hg := hP.ground hb
  have hl := hP.lossE
  have : -1200000 ≤ agE P.up (P.glo b) (P.ghi b) := by unfold agE; split <;> omega
  have e : (P.spU a b v).1 = v - agE P.up P.o0 P.o1 := rfl
  rw [e]
  rcases hv with hv | hv
  · exact absurd hv h1
  · omega
theorem SU_ok {P : Par} {X ra rs ru rl B1 B4 N0 g : Nat} {ar st : List Int} {A0 : Hp} (hP : POk P) (h0 : A0.n ≤ N0) (hp : SPos P X ra rs ru rl B1 B4 N0 g) (hgN : g ≤ N0) : StlOk (SU P X ra rs ru rl B1 B4 ar st A0) P X N0 g := by
  have hx2 := hp.x2
  have hx7 := hp.x7
  have hn2 := hp.n2
  have hn7 := hp.n7
  have ho := hp.ord
  have hg := hp.g
  refine ⟨⟨fun a b hb => nb_lt hP hb, fun a b hb => nb_ne hP hb, ?_, ?_⟩, rfl, fun c _ => rfl, hP, ⟨_, _, _, rfl⟩, fun vs la A h => h.1.hu, fun vs la A h => ⟨⟨_, h.1.hx, rfl⟩, h.1.hg⟩, by show ru < N0; omega, by show rl < N0; omega, by omega, ⟨by show g ≤ ru; omega, hgN⟩, ?_, ?_, ?_⟩
  · intro a b v w ha hb hv hs hw hk
    exact .inr (spU_val (a := a) (b := b) hP (nb_lt (a := a) hP hb) hv hs)
  · intro vs a b hvn hval hG ha hb hs hk
    have hbn := nb_lt hP hb
    have := spU_val (a := a) (b := b) (v := gi vs a) hP hbn (hval a ha) hs
    have hk' : -(P.spU a b (gi vs a)).1 < -(gi vs b) := hk
    refine ⟨trivial, ?_⟩
    show rankU (P.spU a b (gi vs a)).1 < rankU (gi vs b)
    have hb' : SurfV (gi vs b) := hval b hbn
    unfold rankU
    rw [if_neg (by unfold Never; omega)]
    rcases hb' with e | e
    · rw [if_pos e]; omega
    · rw [if_neg (by unfold Never; omega)]; omega
  · intro vs la A A' h hA hn
    exact ⟨h.1.low fun x hx => hA x (by omega), (hA B1 hn2).trans h.2.1, (hA B4 hn7).trans h.2.2.1, Keep.low' h.2.2.2 h0 hA hn⟩
  · intro vs la A d v h hd hvn
    have hr := Hp.lt_of_get h.1.hu
    refine ⟨h.1.putU (by rw [List.length_set]; exact hvn), ?_, ?_, Keep.put' h.2.2.2 hr (.inr (.inr (.inl rfl)))⟩
    · show (A.set ru _).get B1 = _
      rw [get_set_ne hr (by omega)]; exact h.2.1
    · show (A.set ru _).get B4 = _
      rw [get_set_ne hr (by omega)]; exact h.2.2.1
  · intro a b vs la A V h ha hb hv hvn hln hN hQ
    refine w104 h.1 hP ha (nb_lt hP hb) h.2.1 h.2.2.1 hv (by omega) fun A' k hS' => ?_
    refine hQ A' k ⟨?_, ?_, ?_, ?_⟩
    · show Sheet A' P X ra rs ru rl ar st vs (if (true && _) = true then _ else la)
      rw [Bool.true_and]; exact hS'
    · rw [k.2 B1 (Hp.lt_of_get h.2.1) (by omega)]; exact h.2.1
    · rw [k.2 B4 (Hp.lt_of_get h.2.2.1) (by omega)]; exact h.2.2.1
    · exact Keep.trans h.2.2.2 (k.mono fun x hx => .inr (.inr (.inr hx)))
theorem SL_ok {P : Par} {X ra rs ru rl B1 B4 N0 g : Nat} {st su la0 : List Int} {A0 : Hp} (hP : POk P) (hsu : ∀ c, c < P.l.length → SurfV (gi su c)) (h0 : A0.n ≤ N0) (hp : SPos P X ra rs ru rl B1 B4 N0 g) (hgN : g ≤ N0) : StlOk (SL P X ra rs ru rl B1 B4 st su la0 A0) P X N0 g := by
  have hx2 := hp.x2
  have hx7 := hp.x7
  have hn2 := hp.n2
  have hn7 := hp.n7
  have ho := hp.ord
  have hm := hP.landE
  refine ⟨⟨fun a b hb => nb_lt hP hb, fun a b hb => nb_ne hP hb, ?_, ?_⟩, rfl, fun c _ => rfl, hP, ⟨_, _, _, rfl⟩, fun vs la A h => h.2.1.ha, fun vs la A h => ⟨⟨_, h.2.1.hx, rfl⟩, h.2.1.hg⟩, by show ra < N0; omega, by show rl < N0; omega, by omega, ⟨hp.g, hgN⟩, ?_, ?_, ?_⟩
  · intro a b v w ha hb hv hs hw hk
    have hk' : v + agE P.up P.l0 P.l1 * P.s < w := hk
    have hv' : 0 ≤ v ∧ v ≤ Never := hv
    have hw' : 0 ≤ w ∧ w ≤ Never := hw
    show 0 ≤ v + agE P.up P.l0 P.l1 * P.s ∧ v + agE P.up P.l0 P.l1 * P.s ≤ Never
    omega
  · intro vs a b hvn hval hG ha hb hs hk
    have hbn := nb_lt hP hb
    have hva : 0 ≤ gi vs a ∧ gi vs a ≤ Never := hval a ha
    have hvb : 0 ≤ gi vs b ∧ gi vs b ≤ Never := hval b hbn
    have hk' : gi vs a + agE P.up P.l0 P.l1 * P.s < gi vs b := hk
    have hsm := hP.small
    have hvn' : vs.length = P.l.length := hvn
    have ha' : a < P.l.length := ha
    exact GA_step (a := a) (u := gi vs a + agE P.up P.l0 P.l1 * P.s) (by omega) hG (by omega) (by omega) (by omega) (by omega) (by omega) hk' hvb.2 (by rw [hvn']; omega)
  · intro vs la A A' h hA hn
    exact ⟨h.1, h.2.1.low fun x hx => hA x (by omega), (hA B1 hn2).trans h.2.2.1, (hA B4 hn7).trans h.2.2.2.1, Keep.low' h.2.2.2.2 h0 hA hn⟩
  · intro vs la A d v h hd hvn
    have hr := Hp.lt_of_get h.2.1.ha
    refine ⟨h.1, h.2.1.putA (by rw [List.length_set]; exact hvn), ?_, ?_, Keep.put' h.2.2.2.2 hr (.inl rfl)⟩
    · show (A.set ra _).get B1 = _
      rw [get_set_ne hr (by omega)]; exact h.2.2.1
    · show (A.set ra _).get B4 = _
      rw [get_set_ne hr (by omega)]; exact h.2.2.2.1
  · intro a b vs la A V h ha hb hv hvn hln hN hQ
    refine w105 h.2.1 hP ha (nb_lt hP hb) h.2.2.1 h.2.2.2.1 (hsu a ha) hv fun A' k => ?_
    refine hQ A' (k.keep _) ⟨?_, h.2.1.ext k, k.get h.2.2.1, k.get h.2.2.2.1, Keep.trans h.2.2.2.2 (k.keep _)⟩
    show (if (false && _) = true then _ else la) = la0
    simp [h.1]
def PU (P : Par) : Stl := (SU P 0 0 0 0 0 0 0 [] [] ⟨0, []⟩).pl
def PL (P : Par) (su : List Int) : Stl := (SL P 0 0 0 0 0 0 0 [] su [] ⟨0, []⟩).pl
theorem PU_mon {P : Par} (hP : POk P) : StlMon (PU P) := by
  refine ⟨fun a b u v ha hb hv hk hs => ?_, fun _ => rfl, fun a b hb => nb_lt hP hb⟩
  have hk' : -v ≤ -u := hk
  obtain ⟨h1, h2, h3⟩ := spU_true (show (P.spU a b u).2 = true from hs)
  have hg := hP.ground (nb_lt hP hb)
  have hl := hP.lossE
  have : -1200000 ≤ agE P.up (P.glo b) (P.ghi b) := by unfold agE; split <;> omega
  refine .inl ⟨?_, ?_⟩
  · show (P.spU a b v).2 = true
    unfold Par.spU
    simp only [Bool.and_eq_true, decide_eq_true_eq, Bool.not_eq_true', decide_eq_false_iff_not]
    refine ⟨?_, h2, by omega⟩
    unfold Never; omega
  · show -(v - agE P.up P.o0 P.o1) ≤ -(u - agE P.up P.o0 P.o1)
    omega
theorem PL_mon {P : Par} (hP : POk P) {su : List Int} : StlMon (PL P su) := by
  refine ⟨fun a b u v ha hb hv hk hs => .inl ⟨hs, ?_⟩, fun h => (by cases h), fun a b hb => nb_lt hP hb⟩
  have hk' : v ≤ u := hk
  show v + agE P.up P.l0 P.l1 * P.s ≤ u + agE P.up P.l0 P.l1 * P.s
  omega
end Go.Ab.Wave
namespace Go.Ab.Wave
open Go Go.Ab
def srfK (P : Par) (ar st : List Int) (k : Nat) : List Int := (List.range P.l.length).map fun c => if c < k ∧ gi ar c < Never then ofE P.up P.slo P.shi + P.rise st c else -Never
theorem srfK_len {P : Par} {ar st : List Int} {k : Nat} : (srfK P ar st k).length = P.l.length := by simp [srfK]
theorem srfK_get {P : Par} {ar st : List Int} {k c : Nat} (hc : c < P.l.length) : gi (srfK P ar st k) c = if c < k ∧ gi ar c < Never then ofE P.up P.slo P.shi + P.rise st c else -Never := by
  rw [gi_eq (by rw [srfK_len]; exact hc)]
  simp [srfK]
theorem srfK_zero {P : Par} {ar st : List Int} : srfK P ar st 0 = List.replicate P.l.length (-Never) :=
  gi_ext srfK_len (by simp) fun c hc => by rw [srfK_get hc, gi_replicate hc, if_neg (by omega)]
theorem srfK_set {P : Par} {ar st : List Int} {k : Nat} (hk : k < P.l.length) (h : gi ar k < Never) : (srfK P ar st k).set k (ofE P.up P.slo P.shi + P.rise st k) = srfK P ar st (k + 1) :=
  gi_ext (by rw [List.length_set, srfK_len]) srfK_len fun c hc => by
    rw [gi_set (by rw [srfK_len]; exact hk), srfK_get hc, srfK_get hc]
    by_cases e : c = k
    · subst e; rw [if_pos rfl, if_pos ⟨by omega, h⟩]
    · rw [if_neg e]
      by_cases h1 : c < k ∧ gi ar c < Never
      · rw [if_pos h1, if_pos ⟨by omega, h1.2⟩]
      · rw [if_neg h1, if_neg (fun h2 => h1 ⟨by omega, h2.2⟩)]
theorem srfK_skip {P : Par} {ar st : List Int} {k : Nat} (h : ¬ gi ar k < Never) : srfK P ar st k = srfK P ar st (k + 1) :=
  gi_ext srfK_len srfK_len fun c hc => by
    rw [srfK_get hc, srfK_get hc]
    by_cases e : c = k
    · subst e; rw [if_neg (by omega), if_neg (fun h2 => h h2.2)]
    · by_cases h1 : c < k ∧ gi ar c < Never
      · rw [if_pos h1, if_pos ⟨by omega, h1.2⟩]
      · rw [if_neg h1, if_neg (fun h2 => h1 ⟨by omega, h2.2⟩)]
structure SailOk (P : Par) (ar st : List Int) : Prop where
  ar : ∀ c, c < P.l.length → (0 ≤ gi ar c ∧ gi ar c ≤ Never) ∧ (gi ar c < Never → gi ar c ≤ 2280000000 ∧ 1 ≤ P.dep c)
  st : ∀ c, c < P.l.length → 0 ≤ gi st c ∧ gi st c ≤ 200000000
theorem POk.under {P : Par} (hP : POk P) {c : Nat} (hc : c < P.l.length) (h : 1 ≤ P.dep c) : 1 ≤ P.under c := by
  have hg := hP.ground hc
  have hs := hP.sea
  unfold Par.under
  cases hup : P.up
  · simp only [Bool.false_eq_true, if_false]
    unfold Par.dep at h
    unfold Par.lst
    simp only [ofE, agE, hup] at h ⊢
    simp at h ⊢
    omega
  · simp only [if_true]; omega
theorem POk.rise {P : Par} (hP : POk P) {c : Nat} {st : List Int} (hc : c < P.l.length) (h : 1 ≤ P.under c) (hst : 0 ≤ gi st c ∧ gi st c ≤ 200000000) : 0 ≤ P.rise st c ∧ P.rise st c ≤ 200000000 := by
  have hl := hP.lst hc
  have hu2 : P.under c ≤ 1220000 := by unfold Par.under; split <;> omega
  obtain ⟨_, f1, f2⟩ := fourth_bounds (b := !P.up) h hu2
  refine ⟨(dv_bounds hst.1 (by omega)).1, dv_le hst.1 (by omega) ?_⟩
  have := Int.mul_le_mul_of_nonneg_left (show (1 : Int) ≤ fourthE (!P.up) (P.under c) by omega) (show (0 : Int) ≤ 200000000 by omega)
  omega
section
variable {g : Nat} {A : Hp} {V : Value → Hp → Prop} {P : Par} {X ra rs ru rl n : Nat} {ar st la : List Int}
theorem loop85 {B1 : Nat} {D : List Nat} {rd : Option Nat} {Q : Ex → St → Prop} {A0 : Hp} (hP : POk P) (hO : SailOk P ar st) (hgr : g ≤ ra) (hX1 : X < B1)
    (hQ : ∀ T' A', Keep (KP ra rs ru rl) A0 A' → Sheet A' P X ra rs ru rl ar st (srfK P ar st P.l.length) la → A'.get B1 = some (.cells [ptrV X] false) → tget T' 1 = ptrV B1 → Q (.exit 0) ⟨T', D, A'⟩) :
    ∀ (k i : Nat) (T : List Value) (A : Hp), i + k = P.l.length → Keep (KP ra rs ru rl) A0 A → Sheet A P X ra rs ru rl ar st (srfK P ar st i) la → A.get B1 = some (.cells [ptrV X] false) →
      tget T 1 = ptrV B1 → tget T 8 = rowS1 ra P.l.length → tget T 9 = .int .i64 P.l.length → tget T 10 = .int .i64 i → W AP KL g rd (.loop body85) ⟨T, D, A⟩ Q := by
  intro k
  have hsm := hP.small
  induction k with
  | zero =>
    intro i T A hi hk hS h1 t1 t8 t9 t10
    have : i = P.l.length := by omega
    subst this
    rw [W_loop]
    simp (disch := as_aux_lemma => first | omega | simp only [hDs] <;> omega | simp [isCell]) [hRs, takeMarks, resA, resAll, resOne, Value.cells, body85, t9, t10]
    exact hQ _ A hk hS h1 (by simp [t1])
  | succ k ih =>
    intro i T A hi hk hS h1 t1 t8 t9 t10
    have hil : i < P.l.length := by omega
    have ia : i < ar.length := by rw [hS.na]; exact hil
    have iu : i < (srfK P ar st i).length := by rw [srfK_len]; exact hil
    have ha := hS.ha
    have hX := hS.hx
    have ho := hS.ord
    have hao := hO.ar i hil
    have hsea := hP.sea
    rw [W_loop]
    by_cases hN : gi ar i < Never
    · have hN' : gi ar i < 1099511627776 := hN
      have hd := (hao.2 hN).2
      have hun := hP.under hil hd
      have hri := hP.rise hil hun (hO.st i hil)
      simp (disch := as_aux_lemma => first | omega | simp only [hDs] <;> omega | simp [isCell]) [hRs, takeMarks, resA, resAll, resOne, Value.cells, body85, t1, t8, t9, t10, rowS1, idxSA_ok, show ((i : Int) < P.l.length) by omega, ha, ints_get ia, hN', ptrV, h1, hX, shCells]
      refine w91 (b := P.up) fun A1 k1 => ?_
      have h11 := k1.get h1
      simp (disch := as_aux_lemma => first | omega | simp only [hDs] <;> omega | simp [isCell]) [hRs, takeMarks, resA, resAll, resOne, Value.cells, t1, h11, ptrV]
      refine w64 (hS.ext k1) hP hil hun (hO.st i hil) fun A2 k2 => ?_
      have hS2 := (hS.ext k1).ext k2
      have hof : -20000 ≤ ofE P.up P.slo P.shi ∧ ofE P.up P.slo P.shi ≤ 20000 := by unfold ofE; split <;> omega
      have hu2 := hS2.hu
      have hr2 := Hp.lt_of_get hu2
      have hset := srfK_set (P := P) (ar := ar) (st := st) hil hN
      have hS3 := hS2.putU (v := srfK P ar st (i + 1)) srfK_len
      simp (disch := as_aux_lemma => first | omega | simp only [hDs] <;> omega | simp [isCell]) [hRs, takeMarks, resA, resAll, resOne, Value.cells, t1, t10, idxSA_ok, show ((i : Int) < P.l.length) by omega, wrId (n := ofE P.up P.slo P.shi + P.rise st i) (by omega) (by omega), hu2, storeB_int iu (show g ≤ ru by omega), hset]
      refine ih (i + 1) _ _ (by omega) (Keep.put' (hk.trans ((k1.trans k2).keep _)) hr2 (.inr (.inr (.inl rfl)))) hS3 ?_ ?_ ?_ ?_ ?_
      · rw [get_set_ne hr2 (by omega)]; exact k2.get h11
      · simp [t1, ptrV]
      · simp [t8, rowS1]
      · simp [t9]
      · simp [t10, wrId (n := (i : Int) + 1) (by omega) (by omega)]
    · have hN' : ¬ gi ar i < 1099511627776 := hN
      simp (disch := as_aux_lemma => first | omega | simp only [hDs] <;> omega | simp [isCell]) [hRs, takeMarks, resA, resAll, resOne, Value.cells, body85, t1, t8, t9, t10, rowS1, idxSA_ok, show ((i : Int) < P.l.length) by omega, ha, ints_get ia, hN', ptrV]
      refine ih (i + 1) _ A (by omega) hk (by rw [← srfK_skip hN]; exact hS) h1 ?_ ?_ ?_ ?_
      · simp [t1, ptrV]
      · simp [t8, rowS1]
      · simp [t9]
      · simp [t10, wrId (n := (i : Int) + 1) (by omega) (by omega)]
noncomputable def srfF (P : Par) (ar st : List Int) : List Int × List Int := (PU P).out (srfK P ar st P.l.length) (List.replicate P.l.length (-Never))
noncomputable def arrL (P : Par) (ar st : List Int) : List Int := ((PL P (srfF P ar st).1).out ar ar).1
theorem srf_ok (hP : POk P) (hO : SailOk P ar st) {c : Nat} (hc : c < P.l.length) : SurfV (gi (srfK P ar st P.l.length) c) := by
  rw [srfK_get hc]
  have hsea := hP.sea
  have hof : -20000 ≤ ofE P.up P.slo P.shi ∧ ofE P.up P.slo P.shi ≤ 20000 := by unfold ofE; split <;> omega
  split
  · rename_i h
    have hri := hP.rise hc (hP.under hc ((hO.ar c hc).2 h.2).2) (hO.st c hc)
    exact .inr (by omega)
  · exact .inl rfl
theorem potU (hP : POk P) (hO : SailOk P ar st) {S : Stl} (hr : S.rank = rankU) : S.pot (srfK P ar st P.l.length) ≤ 40 * 300000000 := by
  have hs := hP.small
  have hle := sum_le (f := S.rank) (R := 300000000) (l := srfK P ar st P.l.length) (by
    intro v hv
    obtain ⟨i, hi, he⟩ := List.mem_iff_getElem.1 hv
    have hi' := hi
    rw [srfK_len] at hi'
    have := srf_ok hP hO hi'
    rw [gi_eq hi, he] at this
    rw [hr]
    unfold rankU
    split
    · omega
    · rcases this with h | h
      · contradiction
      · omega)
  unfold Stl.pot
  rw [srfK_len] at hle
  exact Nat.le_trans hle (Nat.mul_le_mul hs (Nat.le_refl _))
theorem GA1 (hO : SailOk P ar st) (hn : ar.length = P.l.length) : GA 2280000000 1000000000 ar := by
  intro x hx hN
  rw [hn] at hx
  have := ((hO.ar x hx).2 hN).1
  have : 0 ≤ (fin ar : Int) * 1000000000 := Int.mul_nonneg (by omega) (by omega)
  omega
theorem potL (hP : POk P) (hO : SailOk P ar st) (hn : ar.length = P.l.length) {S : Stl} (hr : S.rank = rankA 43000000000) : S.pot ar ≤ 40 * 43000000000 := by
  have hs := hP.small
  have hle := sum_le (f := S.rank) (R := 43000000000) (l := ar) (by
    rw [hr]
    exact GA_rank (T0 := 2280000000) (CR := 1000000000) (by omega) (GA1 hO hn) (by rw [hn]; omega))
  unfold Stl.pot
  rw [hn] at hle
  exact Nat.le_trans hle (Nat.mul_le_mul hs (Nat.le_refl _))
theorem w85 (hS : Sheet A P X ra rs ru rl ar st (List.replicate P.l.length (-Never)) (List.replicate P.l.length (-Never))) (hP : POk P) (hO : SailOk P ar st) (hgr : g ≤ ra)
    (hQ : ∀ A', Keep (KP ra rs ru rl) A A' → Sheet A' P X ra rs ru rl (arrL P ar st) st (srfF P ar st).1 (srfF P ar st).2 → (PU P).Fin (srfK P ar st P.l.length) (List.replicate P.l.length (-Never)) (srfF P ar st).1 (srfF P ar st).2 → (PL P (srfF P ar st).1).FinV ar (arrL P ar st) → V (.tuple ⟨[]⟩) A') :
    WF AP KL g 85 [ptrV X] A V := by
  have hX := Hp.lt_of_get hS.hx
  have ho := hS.ord
  have hsm := hP.small
  have hXg := hS.hx
  obtain ⟨B, hB⟩ : ∃ B, B = A.push (.cells [ptrV X] false) := ⟨_, rfl⟩
  have kB : Ext' A B := by rw [hB]; exact Ext'.push _ _
  have hB1 : B.get A.n = some (.cells [ptrV X] false) := by rw [hB]; exact get_push_new
  have hBn : B.n = A.n + 1 := by rw [hB]; rfl
  rw [WF_body rfl (show AP 85 = some F85 from rfl)]
  simp (disch := as_aux_lemma => first | omega | simp only [hDs] <;> omega | simp [isCell]) [hRs, takeMarks, resA, resAll, resOne, Value.cells, ptrV, hXg, shCells, rowS1]
  have hB' := hB
  simp only [ptrV] at hB'
  rw [← hB']
  refine loop85 (A0 := B) (B1 := A.n) (la := List.replicate P.l.length (-Never)) hP hO hgr hX (fun T' A1 k1 hS1 h11 t1 => ?_) P.l.length 0 _ B (by omega) (Keep.refl _ _) (by rw [srfK_zero]; exact hS.ext kB) hB1 ?_ ?_ ?_ ?_
  · have kk1 : Keep (KP ra rs ru rl) A A1 := (kB.keep _).trans k1
    have hn1 := k1.1
    obtain ⟨A2, hA2⟩ : ∃ A2, A2 = A1.push (.cells [overF A.n] false) := ⟨_, rfl⟩
    have k2 : Ext' A1 A2 := by rw [hA2]; exact Ext'.push _ _
    have hS2 := hS1.ext k2
    have h12 := k2.get h11
    have h42 : A2.get A1.n = some (.cells [overF A.n] false) := by rw [hA2]; exact get_push_new
    have hA2n : A2.n = A1.n + 1 := by rw [hA2]; rfl
    have hX1 := hS1.hx
    simp (disch := as_aux_lemma => first | omega | simp only [hDs] <;> omega | simp [isCell]) [hRs, takeMarks, resA, resAll, resOne, Value.cells, t1, ptrV, storeB_cells, setRange_all, h11, hX1, shCells]
    rw [show A1.push (.cells [.func (.func 102) ⟨[]⟩ ⟨[.pointer (some ⟨A.n, 0, none⟩)]⟩] false) = A2 from hA2.symm]
    have hpos : SPos P X ra rs ru rl A.n A1.n A2.n g := ⟨hX, by omega, by omega, by omega, hgr, ho⟩
    refine w95 (S := SU P X ra rs ru rl A.n A1.n ar st A2) (P := P) (X := X) (vs0 := srfK P ar st P.l.length) (la0 := List.replicate P.l.length (-Never)) (SU_ok hP (Nat.le_refl _) hpos (by omega)) ⟨hS2, h12, h42, Keep.refl _ _⟩ (Stl.mid0 srfK_len hS.nl (fun b hb => srf_ok hP hO hb) trivial) hP.pos (by show P.l.length < 1000; omega) ?_ fun A3 vs la' hI hF hn3 => ?_
    · have := potU hP hO (S := SU P X ra rs ru rl A.n A1.n ar st A2) rfl
      show 2 * _ + P.l.length < _
      omega
    · obtain ⟨hS3, h13, h43, k3⟩ := hI
      have hFU : (PU P).Fin (srfK P ar st P.l.length) (List.replicate P.l.length (-Never)) vs la' := hF.pl
      obtain ⟨e1, e2⟩ := hFU.out (PU_mon hP)
      have e1 : vs = (srfF P ar st).1 := e1
      have e2 : la' = (srfF P ar st).2 := e2 rfl
      have hsu : ∀ c, c < P.l.length → SurfV (gi vs c) := fun c hc => hF.mid.val c hc
      have hX3 := hS3.hx
      simp (disch := as_aux_lemma => first | omega | simp only [hDs] <;> omega | simp [isCell]) [hRs, takeMarks, resA, resAll, resOne, Value.cells, t1, ptrV, h13, hX3, shCells]
      have hpos' : SPos P X ra rs ru rl A.n A1.n A3.n g := ⟨hX, by omega, by omega, by omega, hgr, ho⟩
      refine w95 (S := SL P X ra rs ru rl A.n A1.n st vs la' A3) (P := P) (X := X) (vs0 := ar) (la0 := la') (SL_ok hP hsu (Nat.le_refl _) hpos' (by omega)) ⟨rfl, hS3, h13, h43, Keep.refl _ _⟩ (Stl.mid0 hS.na hS3.nl (fun b hb => (hO.ar b hb).1) (GA1 hO hS.na)) hP.pos (by show P.l.length < 1000; omega) ?_ fun A4 vs4 la4 hI4 hF4 hn4 => ?_
      · have := potL hP hO hS.na (S := SL P X ra rs ru rl A.n A1.n st vs la' A3) rfl
        show 2 * _ + P.l.length < _
        omega
      · obtain ⟨rfl, hS4, h14, h44, k4⟩ := hI4
        subst e1 e2
        have hFL : (PL P (srfF P ar st).1).FinV ar vs4 := Stl.Fin.toV (S := PL P (srfF P ar st).1) hF4.pl rfl hS.na
        have eL : vs4 = arrL P ar st := (hFL.out (PL_mon hP)).1
        subst eL
        simp (disch := as_aux_lemma => first | omega | simp only [hDs] <;> omega | simp [isCell]) [hRs, takeMarks, resA, resAll, resOne, Value.cells]
        exact hQ A4 (((kk1.trans (k2.keep _)).trans k3).trans k4) hS4 hFU hFL
  all_goals simp [ptrV, rowS1]
end
end Go.Ab.Wave
namespace Go.Ab.Wave
open Go Go.Ab
def R93 (g : Nat) (A : Hp) (n : Nat) : Prop := callF AP KL (exec AP KL 3 3) g 93 [.int .u64 1, .int .u64 n] A = some (.tuple ⟨[.int .u64 0, .int .u64 n]⟩, A)
theorem r93_0 (g : Nat) (A : Hp) : callF AP KL (exec AP KL 3 3) g 93 [.int .u64 1, .int .u64 0] A = some (.tuple ⟨[.int .u64 0, .int .u64 0]⟩, A) := by kernel_rfl
theorem r93_1 (g : Nat) (A : Hp) : callF AP KL (exec AP KL 3 3) g 93 [.int .u64 1, .int .u64 1] A = some (.tuple ⟨[.int .u64 0, .int .u64 1]⟩, A) := by kernel_rfl
theorem r93_2 (g : Nat) (A : Hp) : callF AP KL (exec AP KL 3 3) g 93 [.int .u64 1, .int .u64 2] A = some (.tuple ⟨[.int .u64 0, .int .u64 2]⟩, A) := by kernel_rfl
theorem r93_3 (g : Nat) (A : Hp) : callF AP KL (exec AP KL 3 3) g 93 [.int .u64 1, .int .u64 3] A = some (.tuple ⟨[.int .u64 0, .int .u64 3]⟩, A) := by kernel_rfl
theorem r93_4 (g : Nat) (A : Hp) : callF AP KL (exec AP KL 3 3) g 93 [.int .u64 1, .int .u64 4] A = some (.tuple ⟨[.int .u64 0, .int .u64 4]⟩, A) := by kernel_rfl
theorem r93_5 (g : Nat) (A : Hp) : callF AP KL (exec AP KL 3 3) g 93 [.int .u64 1, .int .u64 5] A = some (.tuple ⟨[.int .u64 0, .int .u64 5]⟩, A) := by kernel_rfl
theorem r93_6 (g : Nat) (A : Hp) : callF AP KL (exec AP KL 3 3) g 93 [.int .u64 1, .int .u64 6] A = some (.tuple ⟨[.int .u64 0, .int .u64 6]⟩, A) := by kernel_rfl
theorem r93_7 (g : Nat) (A : Hp) : callF AP KL (exec AP KL 3 3) g 93 [.int .u64 1, .int .u64 7] A = some (.tuple ⟨[.int .u64 0, .int .u64 7]⟩, A) := by kernel_rfl
theorem r93_8 (g : Nat) (A : Hp) : callF AP KL (exec AP KL 3 3) g 93 [.int .u64 1, .int .u64 8] A = some (.tuple ⟨[.int .u64 0, .int .u64 8]⟩, A) := by kernel_rfl
theorem r93_9 (g : Nat) (A : Hp) : callF AP KL (exec AP KL 3 3) g 93 [.int .u64 1, .int .u64 9] A = some (.tuple ⟨[.int .u64 0, .int .u64 9]⟩, A) := by kernel_rfl
theorem r93_10 (g : Nat) (A : Hp) : callF AP KL (exec AP KL 3 3) g 93 [.int .u64 1, .int .u64 10] A = some (.tuple ⟨[.int .u64 0, .int .u64 10]⟩, A) := by kernel_rfl
theorem r93_11 (g : Nat) (A : Hp) : callF AP KL (exec AP KL 3 3) g 93 [.int .u64 1, .int .u64 11] A = some (.tuple ⟨[.int .u64 0, .int .u64 11]⟩, A) := by kernel_rfl
theorem r93_12 (g : Nat) (A : Hp) : callF AP KL (exec AP KL 3 3) g 93 [.int .u64 1, .int .u64 12] A = some (.tuple ⟨[.int .u64 0, .int .u64 12]⟩, A) := by kernel_rfl
theorem r93_13 (g : Nat) (A : Hp) : callF AP KL (exec AP KL 3 3) g 93 [.int .u64 1, .int .u64 13] A = some (.tuple ⟨[.int .u64 0, .int .u64 13]⟩, A) := by kernel_rfl
theorem r93_14 (g : Nat) (A : Hp) : callF AP KL (exec AP KL 3 3) g 93 [.int .u64 1, .int .u64 14] A = some (.tuple ⟨[.int .u64 0, .int .u64 14]⟩, A) := by kernel_rfl
theorem r93_15 (g : Nat) (A : Hp) : callF AP KL (exec AP KL 3 3) g 93 [.int .u64 1, .int .u64 15] A = some (.tuple ⟨[.int .u64 0, .int .u64 15]⟩, A) := by kernel_rfl
theorem r93_16 (g : Nat) (A : Hp) : callF AP KL (exec AP KL 3 3) g 93 [.int .u64 1, .int .u64 16] A = some (.tuple ⟨[.int .u64 0, .int .u64 16]⟩, A) := by kernel_rfl
theorem r93_17 (g : Nat) (A : Hp) : callF AP KL (exec AP KL 3 3) g 93 [.int .u64 1, .int .u64 17] A = some (.tuple ⟨[.int .u64 0, .int .u64 17]⟩, A) := by kernel_rfl
theorem r93_18 (g : Nat) (A : Hp) : callF AP KL (exec AP KL 3 3) g 93 [.int .u64 1, .int .u64 18] A = some (.tuple ⟨[.int .u64 0, .int .u64 18]⟩, A) := by kernel_rfl
theorem r93_19 (g : Nat) (A : Hp) : callF AP KL (exec AP KL 3 3) g 93 [.int .u64 1, .int .u64 19] A = some (.tuple ⟨[.int .u64 0, .int .u64 19]⟩, A) := by kernel_rfl
theorem r93_20 (g : Nat) (A : Hp) : callF AP KL (exec AP KL 3 3) g 93 [.int .u64 1, .int .u64 20] A = some (.tuple ⟨[.int .u64 0, .int .u64 20]⟩, A) := by kernel_rfl
theorem r93_21 (g : Nat) (A : Hp) : callF AP KL (exec AP KL 3 3) g 93 [.int .u64 1, .int .u64 21] A = some (.tuple ⟨[.int .u64 0, .int .u64 21]⟩, A) := by kernel_rfl
theorem r93_22 (g : Nat) (A : Hp) : callF AP KL (exec AP KL 3 3) g 93 [.int .u64 1, .int .u64 22] A = some (.tuple ⟨[.int .u64 0, .int .u64 22]⟩, A) := by kernel_rfl
theorem r93_23 (g : Nat) (A : Hp) : callF AP KL (exec AP KL 3 3) g 93 [.int .u64 1, .int .u64 23] A = some (.tuple ⟨[.int .u64 0, .int .u64 23]⟩, A) := by kernel_rfl
theorem r93_24 (g : Nat) (A : Hp) : callF AP KL (exec AP KL 3 3) g 93 [.int .u64 1, .int .u64 24] A = some (.tuple ⟨[.int .u64 0, .int .u64 24]⟩, A) := by kernel_rfl
theorem r93_25 (g : Nat) (A : Hp) : callF AP KL (exec AP KL 3 3) g 93 [.int .u64 1, .int .u64 25] A = some (.tuple ⟨[.int .u64 0, .int .u64 25]⟩, A) := by kernel_rfl
theorem r93_26 (g : Nat) (A : Hp) : callF AP KL (exec AP KL 3 3) g 93 [.int .u64 1, .int .u64 26] A = some (.tuple ⟨[.int .u64 0, .int .u64 26]⟩, A) := by kernel_rfl
theorem r93_27 (g : Nat) (A : Hp) : callF AP KL (exec AP KL 3 3) g 93 [.int .u64 1, .int .u64 27] A = some (.tuple ⟨[.int .u64 0, .int .u64 27]⟩, A) := by kernel_rfl
theorem r93_28 (g : Nat) (A : Hp) : callF AP KL (exec AP KL 3 3) g 93 [.int .u64 1, .int .u64 28] A = some (.tuple ⟨[.int .u64 0, .int .u64 28]⟩, A) := by kernel_rfl
theorem r93_29 (g : Nat) (A : Hp) : callF AP KL (exec AP KL 3 3) g 93 [.int .u64 1, .int .u64 29] A = some (.tuple ⟨[.int .u64 0, .int .u64 29]⟩, A) := by kernel_rfl
theorem r93_30 (g : Nat) (A : Hp) : callF AP KL (exec AP KL 3 3) g 93 [.int .u64 1, .int .u64 30] A = some (.tuple ⟨[.int .u64 0, .int .u64 30]⟩, A) := by kernel_rfl
theorem r93_31 (g : Nat) (A : Hp) : callF AP KL (exec AP KL 3 3) g 93 [.int .u64 1, .int .u64 31] A = some (.tuple ⟨[.int .u64 0, .int .u64 31]⟩, A) := by kernel_rfl
theorem r93_32 (g : Nat) (A : Hp) : callF AP KL (exec AP KL 3 3) g 93 [.int .u64 1, .int .u64 32] A = some (.tuple ⟨[.int .u64 0, .int .u64 32]⟩, A) := by kernel_rfl
theorem r93_33 (g : Nat) (A : Hp) : callF AP KL (exec AP KL 3 3) g 93 [.int .u64 1, .int .u64 33] A = some (.tuple ⟨[.int .u64 0, .int .u64 33]⟩, A) := by kernel_rfl
theorem r93_34 (g : Nat) (A : Hp) : callF AP KL (exec AP KL 3 3) g 93 [.int .u64 1, .int .u64 34] A = some (.tuple ⟨[.int .u64 0, .int .u64 34]⟩, A) := by kernel_rfl
theorem r93_35 (g : Nat) (A : Hp) : callF AP KL (exec AP KL 3 3) g 93 [.int .u64 1, .int .u64 35] A = some (.tuple ⟨[.int .u64 0, .int .u64 35]⟩, A) := by kernel_rfl
theorem r93_36 (g : Nat) (A : Hp) : callF AP KL (exec AP KL 3 3) g 93 [.int .u64 1, .int .u64 36] A = some (.tuple ⟨[.int .u64 0, .int .u64 36]⟩, A) := by kernel_rfl
theorem r93_37 (g : Nat) (A : Hp) : callF AP KL (exec AP KL 3 3) g 93 [.int .u64 1, .int .u64 37] A = some (.tuple ⟨[.int .u64 0, .int .u64 37]⟩, A) := by kernel_rfl
theorem r93_38 (g : Nat) (A : Hp) : callF AP KL (exec AP KL 3 3) g 93 [.int .u64 1, .int .u64 38] A = some (.tuple ⟨[.int .u64 0, .int .u64 38]⟩, A) := by kernel_rfl
theorem r93_39 (g : Nat) (A : Hp) : callF AP KL (exec AP KL 3 3) g 93 [.int .u64 1, .int .u64 39] A = some (.tuple ⟨[.int .u64 0, .int .u64 39]⟩, A) := by kernel_rfl
theorem r93_40 (g : Nat) (A : Hp) : callF AP KL (exec AP KL 3 3) g 93 [.int .u64 1, .int .u64 40] A = some (.tuple ⟨[.int .u64 0, .int .u64 40]⟩, A) := by kernel_rfl
theorem r93 (g : Nat) (A : Hp) : ∀ n : Nat, n ≤ 40 → R93 g A n
  | 0, _ => r93_0 g A
  | 1, _ => r93_1 g A
  | 2, _ => r93_2 g A
  | 3, _ => r93_3 g A
  | 4, _ => r93_4 g A
  | 5, _ => r93_5 g A
  | 6, _ => r93_6 g A
  | 7, _ => r93_7 g A
  | 8, _ => r93_8 g A
  | 9, _ => r93_9 g A
  | 10, _ => r93_10 g A
  | 11, _ => r93_11 g A
  | 12, _ => r93_12 g A
  | 13, _ => r93_13 g A
  | 14, _ => r93_14 g A
  | 15, _ => r93_15 g A
  | 16, _ => r93_16 g A
  | 17, _ => r93_17 g A
  | 18, _ => r93_18 g A
  | 19, _ => r93_19 g A
  | 20, _ => r93_20 g A
  | 21, _ => r93_21 g A
  | 22, _ => r93_22 g A
  | 23, _ => r93_23 g A
  | 24, _ => r93_24 g A
  | 25, _ => r93_25 g A
  | 26, _ => r93_26 g A
  | 27, _ => r93_27 g A
  | 28, _ => r93_28 g A
  | 29, _ => r93_29 g A
  | 30, _ => r93_30 g A
  | 31, _ => r93_31 g A
  | 32, _ => r93_32 g A
  | 33, _ => r93_33 g A
  | 34, _ => r93_34 g A
  | 35, _ => r93_35 g A
  | 36, _ => r93_36 g A
  | 37, _ => r93_37 g A
  | 38, _ => r93_38 g A
  | 39, _ => r93_39 g A
  | 40, _ => r93_40 g A
  | n + 41, hn => by omega
end Go.Ab.Wave
namespace Go.Ab.Wave
open Go Go.Ab
def rep (n : Nat) (v : Int) (i : Nat) : List Int := List.replicate i v ++ List.replicate (n - i) 0
section
variable {g : Nat} {A : Hp} {V : Value → Hp → Prop}
theorem copyA_rows {x y o so m c n sc s k : Nat} {ds cs : List Value} {ro : Bool} (hx : A.get x = some (.cells ds false)) (hy : A.get y = some (.cells cs ro)) (hg : g ≤ x) (hk : Min.min n m = k) (h1 : so + k ≤ cs.length) (h2 : o + k ≤ ds.length) (hc : cs.all isCell = true) :
    copyA g A 1 (.slice (some ⟨x, o, some 1⟩) m c) (.slice (some ⟨y, so, some s⟩) n sc) = some (.int .i64 k, A.set x (some (.cells (setRange ds o ((cs.drop so).take k)) false))) := by
  have hl : ((cs.drop so).take k).length = k := by simp; omega
  have ha : ((cs.drop so).take k).all isCell = true := by
    rw [List.all_eq_true] at hc ⊢
    intro z hz
    exact hc z (List.mem_of_mem_drop (List.mem_of_mem_take hz))
  simp only [copyA, cellsAt, hy, hk, Nat.mul_one, if_pos h1, writeA, if_pos hg, hx, hl]
  rw [if_pos ⟨h2, ha⟩]
  rfl
theorem rep_copy {n i k : Nat} {v : Int} (h1 : k ≤ i) (h2 : i + k ≤ n) : setRange (ints (rep n v i)) i ((ints (rep n v i)).take k) = ints (rep n v (i + k)) := by
  have e : setRange (ints (rep n v i)) i ((ints (rep n v i)).take k) = ints ((rep n v i).take i ++ (rep n v i).take k ++ (rep n v i).drop (i + k)) := by
    unfold setRange ints
    rw [← List.map_take, ← List.map_take, ← List.map_drop, List.map_append, List.map_append]
    congr 3
    simp [rep]; omega
  rw [e]
  congr 1
  unfold rep
  rw [List.take_append_of_le_length (by simp), List.take_append_of_le_length (by simp; omega), List.take_of_length_le (by simp), List.take_replicate, Nat.min_eq_left h1, List.drop_append, List.drop_replicate, List.drop_replicate, List.replicate_append_replicate]
  rw [show i - (i + k) = 0 by omega]
  simp only [List.replicate_zero, List.nil_append, List.length_replicate]
  congr 2
  omega
theorem loop83 {x n : Nat} {v : Int} {D : List Nat} {rd : Option Nat} {Q : Ex → St → Prop} {A0 : Hp} (hn : n < 1000000) (hg : g ≤ x) (hx0 : A0.n = x) (hQ : ∀ T' A', Ext' A0 A' → A'.n = x + 1 → A'.get x = some (.cells (ints (rep n v n)) false) → tget T' 7 = rowS1 x n → Q (.exit 0) ⟨T', D, A'⟩) :
    ∀ (k i : Nat) (T : List Value) (A : Hp), n ≤ i + k → 1 ≤ i → i ≤ n → Ext' A0 A → A.n = x + 1 → A.get x = some (.cells (ints (rep n v i)) false) → tget T 7 = rowS1 x n → tget T 8 = .int .i64 i → W AP KL g rd (.loop body83) ⟨T, D, A⟩ Q := by
  intro k
  induction k with
  | zero =>
    intro i T A h1 h2 h3 hE hN hx t7 t8
    have : i = n := by omega
    subst this
    rw [W_loop]
    simp (disch := as_aux_lemma => first | omega | simp only [hDs] <;> omega | simp [isCell]) [hRs, takeMarks, resA, resAll, resOne, Value.cells, body83, t7, t8, rowS1]
    exact hQ _ A hE hN hx (by simp [t7, rowS1])
  | succ k ih =>
    intro i T A h1 h2 h3 hE hN hx t7 t8
    by_cases hin : i = n
    · subst hin
      rw [W_loop]
      simp (disch := as_aux_lemma => first | omega | simp only [hDs] <;> omega | simp [isCell]) [hRs, takeMarks, resA, resAll, resOne, Value.cells, body83, t7, t8, rowS1]
      exact hQ _ A hE hN hx (by simp [t7, rowS1])
    · obtain ⟨j, hj⟩ : ∃ j, j = Min.min i (n - i) := ⟨_, rfl⟩
      have hlen : (ints (rep n v i)).length = n := by simp [rep]; omega
      have hcp := copyA_rows (g := g) (A := A) (x := x) (y := x) (o := i) (so := 0) (m := n - i) (c := n - i) (n := i) (sc := n) (s := 1) (k := j) hx hx hg (by omega) (by omega) (by omega) (ints_isCell _)
      rw [List.drop_zero, rep_copy (by omega) (by omega)] at hcp
      have r1 : resliceA 1 (.slice (some ⟨x, 0, some 1⟩) n n) (some (i : Int)) (fun m => some (m : Int)) = some (.slice (some ⟨x, i, some 1⟩) (n - i) (n - i)) := by
        simp only [resliceA]
        rw [if_pos ⟨trivial, by omega, by omega, by omega⟩]
        rw [show ((n : Int) - i).toNat = n - i by omega, show Max.max n n - (i : Int).toNat = n - i by omega, show 0 + (i : Int).toNat * 1 = i by omega]
      have r2 : resliceA 1 (.slice (some ⟨x, 0, some 1⟩) n n) (some (0 : Int)) (fun _ => some (i : Int)) = some (.slice (some ⟨x, 0, some 1⟩) i n) := by
        simp only [resliceA]
        rw [if_pos ⟨trivial, by omega, by omega, by omega⟩]
        rw [show ((i : Int) - 0).toNat = i by omega, show Max.max n n - (0 : Int).toNat = n by omega]
        rfl
      have hxn := Hp.lt_of_get hx
      rw [W_loop]
      simp (disch := as_aux_lemma => first | omega | simp only [hDs] <;> omega | simp [isCell]) [hRs, takeMarks, resA, resAll, resOne, Value.cells, body83, t7, t8, rowS1, show (i : Int) < (n : Int) by omega, boundA, intOfA, r1, r2, hcp]
      refine ih (i + j) _ _ (by omega) (by omega) (by omega) ⟨hE.1, fun y hy => ?_⟩ hN (get_set_same hx) ?_ ?_
      · rw [get_set_ne hxn (by omega)]; exact hE.2 y hy
      · simp [t7, rowS1]
      · simp [wrId (n := (i : Int) + j) (by omega) (by omega)]
end
end Go.Ab.Wave
namespace Go.Ab.Wave
open Go Go.Ab
section
variable {g : Nat} {A : Hp} {V : Value → Hp → Prop}
theorem w93 {n : Nat} (hn : n ≤ 40) (hQ : V (.tuple ⟨[.int .u64 0, .int .u64 n]⟩) A) : WF AP KL g 93 [.int .u64 1, .int .u64 n] A V := ⟨3, 3, _, _, r93 g A n hn, hQ⟩
theorem wrU {n : Nat} (h : n ≤ 40) : wr .u64 (n : Int) = n := by
  rw [wr_eq]
  match n, h with
  | 0, _ => rfl
  | 1, _ => rfl
  | 2, _ => rfl
  | 3, _ => rfl
  | 4, _ => rfl
  | 5, _ => rfl
  | 6, _ => rfl
  | 7, _ => rfl
  | 8, _ => rfl
  | 9, _ => rfl
  | 10, _ => rfl
  | 11, _ => rfl
  | 12, _ => rfl
  | 13, _ => rfl
  | 14, _ => rfl
  | 15, _ => rfl
  | 16, _ => rfl
  | 17, _ => rfl
  | 18, _ => rfl
  | 19, _ => rfl
  | 20, _ => rfl
  | 21, _ => rfl
  | 22, _ => rfl
  | 23, _ => rfl
  | 24, _ => rfl
  | 25, _ => rfl
  | 26, _ => rfl
  | 27, _ => rfl
  | 28, _ => rfl
  | 29, _ => rfl
  | 30, _ => rfl
  | 31, _ => rfl
  | 32, _ => rfl
  | 33, _ => rfl
  | 34, _ => rfl
  | 35, _ => rfl
  | 36, _ => rfl
  | 37, _ => rfl
  | 38, _ => rfl
  | 39, _ => rfl
  | 40, _ => rfl
  | n + 41, h => omega
theorem toIntA_int {k k' : IntKind} {n : Int} : toIntA k (.int k' n) = some (.int k (wr k n)) := rfl
theorem gtrU {a b : Int} : binA .gtr (.int .u64 a) (.int .u64 b) = some (.bool (decide (b < a))) := rfl
theorem zeros_ints {n : Nat} : zeros n [.int .i64 0] = ints (List.replicate n 0) := by
  unfold zeros ints
  apply List.ext_getElem (by simp)
  intro i h1 h2
  simp [Nat.mod_one]
theorem makeS_ok {n : Nat} (hn : n < 1000000) : makeSA 1 8 [.int .i64 0] (.int .i64 n) (.int .i64 n) A = some (rowS1 A.n n, A.push (.cells (ints (List.replicate n 0)) false)) := by
  unfold makeSA
  simp only
  rw [if_pos ⟨by omega, by omega, by unfold room; omega, by unfold room; omega⟩, zeros_ints]
  rfl
theorem w83 {b n : Nat} {v : Int} {ro : Bool} (h1 : 1 ≤ n) (hn : n ≤ 40) (hb : A.get b = some (.cells [.int .i64 v] ro)) (hg : g ≤ A.n)
    (hQ : ∀ A', Ext' A A' → A'.n = A.n + 1 → A'.get A.n = some (.cells (ints (List.replicate n v)) false) → V (rowS1 A.n n) A') :
    WF AP KL g 83 [.slice (some ⟨b, 0, some 1⟩) 1 1, .int .i64 n] A V := by
  have hbn := Hp.lt_of_get hb
  rw [WF_body rfl (show AP 83 = some F83 from rfl)]
  simp (disch := as_aux_lemma => first | omega | simp only [hDs] <;> omega | simp [isCell]) [hRs, takeMarks, resA, resAll, resOne, Value.cells, show ¬ ((n : Int) < 0) by omega, toIntA_int, wrU hn, show wr .u64 (1 : Int) = 1 from rfl]
  refine w93 hn ?_
  simp (disch := as_aux_lemma => first | omega | simp only [hDs] <;> omega | simp [isCell]) [hRs, takeMarks, resA, resAll, resOne, Value.cells, gtrU, pickA_bool, show ¬ ((9223372036854775807 : Int) < n) by omega, toIntA_int, wrId (n := (n : Int)) (by omega) (by omega), makeS_ok (show n < 1000000 by omega)]
  obtain ⟨B, hB⟩ : ∃ B, B = A.push (.cells (ints (List.replicate n 0)) false) := ⟨_, rfl⟩
  have kB : Ext' A B := by rw [hB]; exact Ext'.push _ _
  have hBx : B.get A.n = some (.cells (ints (List.replicate n 0)) false) := by rw [hB]; exact get_push_new
  have hBn : B.n = A.n + 1 := by rw [hB]; rfl
  rw [← hB]
  have hcp := copyA_rows (g := g) (A := B) (x := A.n) (y := b) (o := 0) (so := 0) (m := n) (c := n) (n := 1) (sc := 1) (s := 1) (k := 1) hBx (kB.get hb) hg (by omega) (by simp) (by simp; omega) rfl
  have e : setRange (ints (List.replicate n 0)) 0 (([.int .i64 v] : List Value).drop 0 |>.take 1) = ints (rep n v 1) := by
    obtain ⟨m, rfl⟩ : ∃ m, n = m + 1 := ⟨n - 1, by omega⟩
    simp [setRange, ints, rep, List.replicate_succ]
  rw [e] at hcp
  simp (disch := as_aux_lemma => first | omega | simp only [hDs] <;> omega | simp [isCell]) [hRs, takeMarks, resA, resAll, resOne, Value.cells, rowS1, hcp]
  refine loop83 (A0 := A) (x := A.n) (n := n) (v := v) (by omega) hg rfl (fun T' A' k1 k2 k3 t7 => ?_) n 1 _ _ (by omega) (by omega) (by omega) ⟨by show A.n ≤ B.n; omega, fun y hy => ?_⟩ hBn (get_set_same hBx) ?_ ?_
  · simp (disch := as_aux_lemma => first | omega | simp only [hDs] <;> omega | simp [isCell]) [hRs, takeMarks, resA, resAll, resOne, Value.cells, t7]
    refine hQ A' k1 k2 ?_
    rw [k3]; unfold rep; simp
  · rw [get_set_ne (by omega) (by omega)]; exact kB.2 y hy
  · simp [rowS1]
  · simp
end
end Go.Ab.Wave
