/- wave.Dry. -/
import Derived.Test.YtmmpjfknmdlpoaaZ11
import Derived.Test.YtmmpjfknmdlpoaaZ12
import Derived.Test.YtmmpjfknmdlpoaaZ13
import Derived.Test.YtmmpjfknmdlpoaaZ10
import Derived.ProofKit
import Derived.OpenShut
import Derived.Below
import Derived.Deep.Slices
set_option linter.unusedSimpArgs false
set_option linter.unusedVariables false
set_option linter.unusedSectionVars false
/- The chapter's examples hold. -/
set_option maxRecDepth 100000
namespace Go.Ab.Wave
open Go Go.Ab

def K3 : Nat → Option Spec := tableK [(37, [mCheck]), (45, [mSpread1, mSpread2, mSpread3])]
theorem K3_ok : SpecsOk E K3 := tableK_ok (by
  intro p hp
  simp only [List.mem_cons, List.not_mem_nil, or_false] at hp
  rcases hp with rfl | rfl
  · exact ⟨isFn 37 (by kernel_rfl), fun M hM => by simp only [List.mem_singleton] at hM; subst hM; exact mCheck_ok⟩
  · refine ⟨isFn 45 (by kernel_rfl), fun M hM => ?_⟩
    simp only [List.mem_cons, List.not_mem_nil, or_false] at hM
    rcases hM with rfl | rfl | rfl
    · exact mSpread1_ok
    · exact mSpread2_ok
    · exact mSpread3_ok)

def mWorks : Memo := ⟨[], [], .bool true, none⟩
theorem mWorks_run : mWorks.check E.AP K3 300 40 10 = true := by kernel_rfl
theorem mWorks_ok : mWorks.Ok E 10 := Memo.ok_of_check K3_ok (isFn 10 (by kernel_rfl)) (by kernel_rfl) mWorks_run

end Go.Ab.Wave
/- Values and heaps, evaluated by simp on letters. -/
namespace Go.Ab

theorem wrId {n : Int} (h0 : -9223372036854775808 ≤ n) (h1 : n < 9223372036854775808) : wr .i64 n = n := by rw [wr_eq]; exact wrap_i64 n h0 h1

section
variable {T : List Value} {A : Hp} {a b : Int} {v x y : Value} {n : Nat}

@[simp] theorem ev_t' : ev T (.t n) = tget T n := rfl
@[simp] theorem ev_k' : ev T (.k v) = v := rfl
@[simp] theorem putA_some' : putA (some n) T v = tset T n v := rfl
@[simp] theorem putA_none' : putA none T v = T := rfl
@[simp] theorem binA_add : binA .add (.int .i64 a) (.int .i64 b) = some (.int .i64 (wr .i64 (a + b))) := rfl
@[simp] theorem binA_sub : binA .sub (.int .i64 a) (.int .i64 b) = some (.int .i64 (wr .i64 (a - b))) := rfl
@[simp] theorem binA_mul : binA .mul (.int .i64 a) (.int .i64 b) = some (.int .i64 (wr .i64 (a * b))) := rfl
theorem binA_quo (h : b ≠ 0) : binA .quo (.int .i64 a) (.int .i64 b) = some (.int .i64 (wr .i64 (a.tdiv b))) := by simp [binA, intA, kEq, h]
theorem binA_rem (h : b ≠ 0) : binA .rem (.int .i64 a) (.int .i64 b) = some (.int .i64 (a.tmod b)) := by simp [binA, intA, kEq, h]
@[simp] theorem binA_eql : binA .eql (.int .i64 a) (.int .i64 b) = some (.bool (decide (a = b))) := rfl
@[simp] theorem binA_neq : binA .neq (.int .i64 a) (.int .i64 b) = some (.bool (!decide (a = b))) := rfl
@[simp] theorem binA_lss : binA .lss (.int .i64 a) (.int .i64 b) = some (.bool (decide (a < b))) := rfl
@[simp] theorem binA_leq : binA .leq (.int .i64 a) (.int .i64 b) = some (.bool (decide (a ≤ b))) := rfl
@[simp] theorem binA_gtr : binA .gtr (.int .i64 a) (.int .i64 b) = some (.bool (decide (b < a))) := rfl
@[simp] theorem binA_geq : binA .geq (.int .i64 a) (.int .i64 b) = some (.bool (decide (b ≤ a))) := rfl
@[simp] theorem binA_shl : binA .shl (.int .i64 a) (.int .i64 b) = shA true .i64 a b := rfl
@[simp] theorem binA_shr : binA .shr (.int .i64 a) (.int .i64 b) = shA false .i64 a b := rfl
@[simp] theorem pickA_true : pickA (.bool true) x y = some x := rfl
@[simp] theorem pickA_false : pickA (.bool false) x y = some y := rfl
theorem pickA_bool {c p q : Bool} : pickA (.bool c) (.bool p) (.bool q) = some (.bool ((c && p) || (!c && q))) := by cases c <;> simp
@[simp] theorem negA_int : negA (.int .i64 a) = some (.int .i64 (wr .i64 (0 - a))) := rfl
@[simp] theorem notA_bool {c : Bool} : notA (.bool c) = some (.bool (!c)) := rfl
@[simp] theorem beqA_bool {c p q : Bool} : beqA c (.bool p) (.bool q) = some (.bool (if c then !(p == q) else p == q)) := rfl
@[simp] theorem extractA_tuple {l : List Value} : extractA n (.tuple ⟨l⟩) = l[n]? := by simp [extractA]
@[simp] theorem lenV_slice {p : _} {c : Nat} : lenV (.slice p n c) = some (.int .i64 n) := rfl
@[simp] theorem fieldAddrA_ptr {k o : Nat} : fieldAddrA n (.pointer (some ⟨k, o, none⟩)) = some (.pointer (some ⟨k, o + n, none⟩)) := rfl
@[simp] theorem fieldA_agg {l : List Value} {s : Option Nat} : fieldA n s (.agg ⟨l⟩) = partA l n s := rfl
@[simp] theorem nilCheckA_ptr {p : _} : nilCheckA (.pointer (some p)) = some (.pointer (some p)) := rfl
theorem idxSA_ok {esz k o c : Nat} {s : Nat} {i : Int} {kd : IntKind} (h0 : 0 ≤ i) (h1 : i < n) : idxSA esz (.slice (some ⟨k, o, some s⟩) n c) (.int kd i) = some (.pointer (some ⟨k, o + i.toNat * esz, none⟩)) := by simp [idxSA, h0, h1]
theorem idxAA_ok {esz k o : Nat} {i : Int} {kd : IntKind} (h0 : 0 ≤ i) (h1 : i < n) : idxAA n esz (.pointer (some ⟨k, o, none⟩)) (.int kd i) = some (.pointer (some ⟨k, o + i.toNat * esz, none⟩)) := by simp [idxAA, h0, h1]

def mn2 (a b : Int) : Int := if b < a then b else a
def mx2 (a b : Int) : Int := if b > a then b else a
theorem mn2_eq : mn2 a b = min a b := by unfold mn2; split <;> omega
theorem mx2_eq : mx2 a b = max a b := by unfold mx2; split <;> omega
@[simp] theorem minA_two : minA [.int .i64 a, .int .i64 b] = some (.int .i64 (min a b)) := by rw [← mn2_eq]; simp [minA, foldInt, mn2]
@[simp] theorem maxA_two' : maxA [.int .i64 a, .int .i64 b] = some (.int .i64 (max a b)) := by rw [← mx2_eq]; simp [maxA, foldInt, mx2]
theorem maxA_four {c d : Int} : maxA [.int .i64 a, .int .i64 b, .int .i64 c, .int .i64 d] = some (.int .i64 (max (max (max a b) c) d)) := by
  rw [← mx2_eq, ← mx2_eq, ← mx2_eq]; simp [maxA, foldInt, mx2]

/-! ### Loads and stores -/

def loadB (b : Option ABlk) (o : Nat) (s : Option Nat) : Option Value :=
  match b with
  | some (.cells cs _) => partA cs o s
  | _ => none
@[simp] theorem loadA_ptr {k o : Nat} {s : Option Nat} : loadA A (.pointer (some ⟨k, o, none⟩)) s = loadB (A.get k) o s := by
  unfold loadA loadB
  rfl
@[simp] theorem loadB_cells {cs : List Value} {ro : Bool} {o : Nat} {s : Option Nat} : loadB (some (.cells cs ro)) o s = partA cs o s := rfl
def cellAt (cs : List Value) (o : Nat) : Option Value := cs[o]?
@[simp] theorem partA_none {cs : List Value} {o : Nat} : partA cs o none = cellAt cs o := rfl
@[simp] theorem cellAt_zero {cs : List Value} : cellAt (v :: cs) 0 = some v := rfl
@[simp] theorem cellAt_succ {cs : List Value} {o : Nat} : cellAt (v :: cs) (o + 1) = cellAt cs o := rfl
theorem partA_all {cs : List Value} {s : Nat} (h : cs.length = s) : partA cs 0 (some s) = some (.agg ⟨cs⟩) := by subst h; simp [partA]
theorem partA_some {cs : List Value} {o s : Nat} (h : o + s ≤ cs.length) : partA cs o (some s) = some (.agg ⟨(cs.drop o).take s⟩) := by simp [partA, h]

def storeB (b : Option ABlk) (g : Nat) (A : Hp) (x o : Nat) (vs : List Value) (size : Nat) : Option (Value × Hp) :=
  match b with
  | some (.cells cs false) => if vs.length = size ∧ g ≤ x ∧ o + vs.length ≤ cs.length ∧ vs.all isCell = true then some (undef, A.set x (some (.cells (setRange cs o vs) false))) else none
  | _ => none
@[simp] theorem storeA_ptr {g k o size : Nat} : storeV (storeA g A (.pointer (some ⟨k, o, none⟩)) v size) = storeB (A.get k) g A k o v.cells.toList size := by
  unfold storeA storeB writeA storeV
  simp only
  by_cases h1 : v.cells.toList.length = size
  · rw [if_pos h1]
    by_cases h2 : g ≤ k
    · rw [if_pos h2]
      split
      · rename_i cs hc
        simp only [hc, h1, h2, true_and]
        split <;> rfl
      · rename_i hc
        split
        · rename_i cs hc'; exact absurd hc' (hc cs)
        · rfl
    · rw [if_neg h2]
      split
      · simp [h2]
      · rfl
  · rw [if_neg h1]
    split
    · rw [if_neg (fun h => h1 h.1)]; rfl
    · rfl
theorem storeB_cells {g k o size : Nat} {cs vs : List Value} (h1 : vs.length = size) (h2 : g ≤ k) (h3 : o + size ≤ cs.length) (h4 : vs.all isCell = true) :
    storeB (some (.cells cs false)) g A k o vs size = some (undef, A.set k (some (.cells (setRange cs o vs) false))) := by
  subst h1; simp only [storeB]; rw [if_pos ⟨trivial, h2, h3, h4⟩]

@[simp] theorem zeros_one {z : List Value} : zeros 1 z = z := by
  unfold zeros
  rw [Nat.one_mul]
  apply List.ext_getElem?
  intro i
  by_cases h : i < z.length
  · simp [h, Nat.mod_eq_of_lt h]
  · simp [h]

/-! ### Rows of integers -/

def ints (l : List Int) : List Value := l.map (.int .i64)
@[simp] theorem ints_length (l : List Int) : (ints l).length = l.length := List.length_map ..
def gi (l : List Int) (o : Nat) : Int := l.getD o 0
theorem gi_eq {l : List Int} {o : Nat} (h : o < l.length) : gi l o = l[o] := by simp [gi, h]
theorem ints_get' {l : List Int} {o : Nat} (h : o < l.length) : (ints l)[o]? = some (.int .i64 (gi l o)) := by simp [ints, gi, h]
theorem ints_get {l : List Int} {o : Nat} (h : o < l.length) : cellAt (ints l) o = some (.int .i64 (gi l o)) := ints_get' h
theorem ints_two {l : List Int} {o : Nat} (h : o + 2 ≤ l.length) : partA (ints l) o (some 2) = some (.agg ⟨[.int .i64 (gi l o), .int .i64 (gi l (o + 1))]⟩) := by
  have h0 : o < l.length := by omega
  have h1 : o + 1 < l.length := by omega
  rw [partA_some (by rw [ints_length]; exact h)]
  have e : (ints l).drop o = .int .i64 l[o] :: .int .i64 l[o + 1] :: (ints l).drop (o + 2) := by
    simp only [ints, ← List.map_drop]
    rw [List.drop_eq_getElem_cons h0, List.drop_eq_getElem_cons h1]
    rfl
  rw [e]
  simp [gi_eq h0, gi_eq h1]
def cellsFrom (l : List Int) (o : Nat) : Nat → List Value
  | 0 => []
  | s + 1 => cellsFrom l o s ++ [.int .i64 (gi l (o + s))]
theorem ints_part {l : List Int} {o : Nat} : ∀ {s : Nat}, o + s ≤ l.length → partA (ints l) o (some s) = some (.agg ⟨cellsFrom l o s⟩) := by
  intro s h
  rw [partA_some (by rw [ints_length]; exact h)]
  have e : ∀ s, o + s ≤ l.length → ((ints l).drop o).take s = cellsFrom l o s := by
    intro s
    induction s with
    | zero => intro _; rfl
    | succ s ih =>
      intro h
      have hs : o + s < l.length := by omega
      rw [List.take_add_one, ih (by omega), cellsFrom, List.getElem?_drop, ints_get' hs]
      rfl
  rw [e s h]
theorem ints_3 {l : List Int} {o : Nat} (h : o + 3 ≤ l.length) : partA (ints l) o (some 3) = some (.agg ⟨[.int .i64 (gi l o), .int .i64 (gi l (o + 1)), .int .i64 (gi l (o + 2))]⟩) := by
  rw [ints_part h]; rfl
theorem ints_4 {l : List Int} {o : Nat} (h : o + 4 ≤ l.length) : partA (ints l) o (some 4) = some (.agg ⟨[.int .i64 (gi l o), .int .i64 (gi l (o + 1)), .int .i64 (gi l (o + 2)), .int .i64 (gi l (o + 3))]⟩) := by
  rw [ints_part h]; rfl
theorem ints_5 {l : List Int} {o : Nat} (h : o + 5 ≤ l.length) : partA (ints l) o (some 5) = some (.agg ⟨[.int .i64 (gi l o), .int .i64 (gi l (o + 1)), .int .i64 (gi l (o + 2)), .int .i64 (gi l (o + 3)), .int .i64 (gi l (o + 4))]⟩) := by
  rw [ints_part h]; rfl
theorem ints_6 {l : List Int} {o : Nat} (h : o + 6 ≤ l.length) : partA (ints l) o (some 6) = some (.agg ⟨[.int .i64 (gi l o), .int .i64 (gi l (o + 1)), .int .i64 (gi l (o + 2)), .int .i64 (gi l (o + 3)), .int .i64 (gi l (o + 4)), .int .i64 (gi l (o + 5))]⟩) := by
  rw [ints_part h]; rfl
theorem ints_7 {l : List Int} {o : Nat} (h : o + 7 ≤ l.length) : partA (ints l) o (some 7) = some (.agg ⟨[.int .i64 (gi l o), .int .i64 (gi l (o + 1)), .int .i64 (gi l (o + 2)), .int .i64 (gi l (o + 3)), .int .i64 (gi l (o + 4)), .int .i64 (gi l (o + 5)), .int .i64 (gi l (o + 6))]⟩) := by
  rw [ints_part h]; rfl
theorem ints_8 {l : List Int} {o : Nat} (h : o + 8 ≤ l.length) : partA (ints l) o (some 8) = some (.agg ⟨[.int .i64 (gi l o), .int .i64 (gi l (o + 1)), .int .i64 (gi l (o + 2)), .int .i64 (gi l (o + 3)), .int .i64 (gi l (o + 4)), .int .i64 (gi l (o + 5)), .int .i64 (gi l (o + 6)), .int .i64 (gi l (o + 7))]⟩) := by
  rw [ints_part h]; rfl
theorem ints_9 {l : List Int} {o : Nat} (h : o + 9 ≤ l.length) : partA (ints l) o (some 9) = some (.agg ⟨[.int .i64 (gi l o), .int .i64 (gi l (o + 1)), .int .i64 (gi l (o + 2)), .int .i64 (gi l (o + 3)), .int .i64 (gi l (o + 4)), .int .i64 (gi l (o + 5)), .int .i64 (gi l (o + 6)), .int .i64 (gi l (o + 7)), .int .i64 (gi l (o + 8))]⟩) := by
  rw [ints_part h]; rfl
theorem ints_10 {l : List Int} {o : Nat} (h : o + 10 ≤ l.length) : partA (ints l) o (some 10) = some (.agg ⟨[.int .i64 (gi l o), .int .i64 (gi l (o + 1)), .int .i64 (gi l (o + 2)), .int .i64 (gi l (o + 3)), .int .i64 (gi l (o + 4)), .int .i64 (gi l (o + 5)), .int .i64 (gi l (o + 6)), .int .i64 (gi l (o + 7)), .int .i64 (gi l (o + 8)), .int .i64 (gi l (o + 9))]⟩) := by
  rw [ints_part h]; rfl
theorem ints_simple (l : List Int) : (ints l).all simple = true := by
  induction l with
  | nil => rfl
  | cons x l ih => simp [ints] at ih ⊢; exact ⟨rfl, ih⟩
theorem ints_isCell (l : List Int) : (ints l).all isCell = true := by
  induction l with
  | nil => rfl
  | cons x l ih => simp [ints] at ih ⊢; exact ⟨rfl, ih⟩
theorem ints_append (a b : List Int) : ints (a ++ b) = ints a ++ ints b := List.map_append ..

theorem setRange_all {cs vs : List Value} (h : cs.length = vs.length) : setRange cs 0 vs = vs := by simp [setRange, h]

theorem eqv2 {c : Bool} {a' b' : Int} : eqvA c [false, false] (.agg ⟨[.int .i64 a, .int .i64 b]⟩) (.agg ⟨[.int .i64 a', .int .i64 b']⟩) = some (.bool (if c then !(decide (a = a') && decide (b = b')) else decide (a = a') && decide (b = b'))) := by
  cases c <;> simp [eqvA, eqCells, cellEq, kEq] <;> rfl

end

theorem AccS.someOf {A : Hp} {N k i n : Nat} {cs : List Value} {sv : Value} (h : AccS N A k cs sv) (hl : cs.length = n * k) (hi : i < n) (hk : 0 < k) : ∃ b, sv = .slice (some ⟨b, 0, some k⟩) n n ∧ A.get b = some (.cells cs false) := by
  rcases h with ⟨h1, h2⟩ | ⟨b, m, h1, h2, h3, h4, h5⟩
  · subst h2
    have := Nat.mul_pos (show 0 < n by omega) hk
    simp at hl; omega
  · have : m = n := Nat.eq_of_mul_eq_mul_right hk (h4.symm.trans hl)
    subst this
    exact ⟨b, h1, h2⟩
theorem AccS.lenI {A : Hp} {N k n : Nat} {cs : List Value} {sv : Value} (h : AccS N A k cs sv) (hl : cs.length = n * k) (hk : 0 < k) : Go.Ab.lenV sv = some (.int .i64 n) := by
  obtain ⟨m, h1, h2⟩ := h.len
  have : m = n := Nat.eq_of_mul_eq_mul_right hk (h2.symm.trans hl)
  rw [h1, this]

/-- A slice that is read: n elements of k cells each. -/
def RdS (A : Hp) (k n : Nat) (cs : List Value) (sv : Value) : Prop :=
  cs.length = n * k ∧ ((sv = .slice none 0 0 ∧ n = 0) ∨ ∃ b c ro, sv = .slice (some ⟨b, 0, some k⟩) n c ∧ A.get b = some (.cells cs ro))
theorem RdS.mono {A A' : Hp} {k n : Nat} {cs : List Value} {sv : Value} (h : RdS A k n cs sv) (hA : ∀ x, x < A.n → A'.get x = A.get x) : RdS A' k n cs sv := by
  obtain ⟨h0, h | ⟨b, c, ro, h1, h2⟩⟩ := h
  · exact ⟨h0, .inl h⟩
  · exact ⟨h0, .inr ⟨b, c, ro, h1, by rw [hA b (Hp.lt_of_get h2)]; exact h2⟩⟩
theorem RdS.push {A : Hp} {k n : Nat} {cs : List Value} {sv : Value} {x : ABlk} (h : RdS A k n cs sv) : RdS (A.push x) k n cs sv := h.mono fun x hx => by rw [Hp.get_push, if_neg (by omega)]
theorem RdS.len {A : Hp} {k n : Nat} {cs : List Value} {sv : Value} (h : RdS A k n cs sv) : lenV sv = some (.int .i64 n) := by
  obtain ⟨_, ⟨rfl, rfl⟩ | ⟨b, c, ro, rfl, _⟩⟩ := h <;> rfl
theorem RdS.at {A : Hp} {k n i : Nat} {cs : List Value} {sv : Value} (h : RdS A k n cs sv) (hi : i < n) : ∃ b c ro, sv = .slice (some ⟨b, 0, some k⟩) n c ∧ A.get b = some (.cells cs ro) := by
  obtain ⟨_, ⟨_, h0⟩ | h⟩ := h
  · omega
  · exact h
theorem AccS.rd {A : Hp} {N k n : Nat} {cs : List Value} {sv : Value} (h : AccS N A k cs sv) (hl : cs.length = n * k) (hk : 0 < k) : RdS A k n cs sv := by
  refine ⟨hl, ?_⟩
  rcases Nat.eq_zero_or_pos n with h0 | h0
  · subst h0
    rcases h with ⟨h1, _⟩ | ⟨b, m, h1, h2, h3, h4, h5⟩
    · exact .inl ⟨h1, rfl⟩
    · have := Nat.mul_pos h5 hk
      omega
  · obtain ⟨b, h1, h2⟩ := h.someOf hl h0 hk
    exact .inr ⟨b, n, false, h1, h2⟩
/-- One row more, made just before. -/
theorem AccS.add {N g : Nat} {A : Hp} {esz bytes n : Nat} {cs new : List Value} {ro : Bool} {sv : Value} (h : AccS N A esz cs sv) (hg : g ≤ N) (hN : N ≤ A.n) (hnew : new.length = esz) (hesz : 0 < esz) (hcell : new.all isCell = true) (hl : cs.length = n * esz)
    (hroom : (n + 1) * bytes ≤ room ∧ n + 1 ≤ room) : ∃ sv' A', appendA g (A.push (.cells new ro)) esz bytes sv (.slice (some ⟨A.n, 0, some esz⟩) 1 1) = some (sv', A') ∧ AccS N A' esz (cs ++ new) sv' ∧ (∀ z, z < N → A'.get z = A.get z) ∧ A.n ≤ A'.n := by
  obtain ⟨sv', A', h1, h2, h3, h4⟩ := append_acc (A := A.push (.cells new ro)) (y := A.n) (h.mono fun x hx => by rw [Hp.get_push, if_neg (by omega)]) hg (by simp; omega) (by rw [Hp.get_push, if_pos rfl]) hnew hesz hcell hl hroom
  exact ⟨sv', A', h1, h2, fun z hz => by rw [h3 z hz, Hp.get_push, if_neg (by omega)], by rw [h4]; simp; omega⟩

/-! ### Heaps in a normal form: what is made last stands outermost -/

section
variable {A : Hp} {b c : ABlk} {x y : Nat}

theorem get_push_eq (h : x ≤ A.n ∧ A.n ≤ x) : (A.push b).get x = some b := by rw [show x = A.n by omega]; exact get_push_new
@[simp] theorem set_push_new {b' : ABlk} : (A.push b).set A.n (some b') = A.push b' := by
  unfold Hp.push Hp.set; simp
theorem set_push_old {b' : Option ABlk} (h : x < A.n) : (A.push b).set x b' = (A.set x b').push b := by
  unfold Hp.push Hp.set
  simp only [Nat.add_sub_cancel]
  rw [show A.n - x = (A.n - 1 - x) + 1 by omega, List.set_cons_succ]
theorem get_set_isSome {b' : Option ABlk} (h : (A.get x).isSome = true) : (A.set x b').get x = b' := by
  obtain ⟨b0, hb⟩ := Option.isSome_iff_exists.1 h
  exact get_set_same hb

theorem push1_old {A : Hp} {b : ABlk} {x : Nat} (h : x < A.n) : (A.push b).get x = A.get x := get_push_old h
theorem push2_old {A : Hp} {b c : ABlk} {x : Nat} (h : x < A.n) : ((A.push b).push c).get x = A.get x := by rw [get_push_old (by simp; omega), get_push_old h]
theorem push3_old {A : Hp} {b c d : ABlk} {x : Nat} (h : x < A.n) : (((A.push b).push c).push d).get x = A.get x := by rw [get_push_old (by simp; omega), push2_old h]
theorem push4_old {A : Hp} {b c d e : ABlk} {x : Nat} (h : x < A.n) : ((((A.push b).push c).push d).push e).get x = A.get x := by rw [get_push_old (by simp; omega), push3_old h]
theorem push2_a {A : Hp} {b c : ABlk} : ((A.push b).push c).get A.n = some b := by rw [get_push_old (by simp), get_push_new]
theorem push2_b {A : Hp} {b c : ABlk} : ((A.push b).push c).get (A.n + 1) = some c := by rw [get_push_eq (by simp)]
theorem push3_a {A : Hp} {b c d : ABlk} : (((A.push b).push c).push d).get A.n = some b := by rw [get_push_old (by simp; omega), push2_a]
theorem push3_b {A : Hp} {b c d : ABlk} : (((A.push b).push c).push d).get (A.n + 1) = some c := by rw [get_push_old (by simp), push2_b]
theorem push3_c {A : Hp} {b c d : ABlk} : (((A.push b).push c).push d).get (A.n + 2) = some d := by rw [get_push_eq (by simp)]
theorem push2_n {A : Hp} {b c : ABlk} : ((A.push b).push c).n = A.n + 2 := rfl
theorem push3_n {A : Hp} {b c d : ABlk} : (((A.push b).push c).push d).n = A.n + 3 := rfl

end
end Go.Ab
/- WaveStarts. -/
namespace Go.Ab.Wave
open Go Go.Ab

def KL : Nat → Option Spec := fun f => match f with
  | 10 => some (memoSpec [mWorks]) | 12 => some S12 | 13 => some S13 | 14 => some S14 | 15 => some S13 | 37 => some S37 | 38 => some S38 | 39 => some S39 | 40 => some S37 | 42 => some S42 | 43 => some S42
  | _ => none

section
variable {A : Hp} {sl : Value} {w h s k c cl lo hi : Int} {l : List (Int × Int)} {g : Nat} {V : Value → Hp → Prop}

theorem accV_acc {N k : Nat} {cs : List Value} (hk : 0 < k) (hd : k ∣ cs.length) (hN : N ≤ A.n) : AccS N (outHp A (accOut cs)) k cs (accV A.n k cs) := by
  unfold accOut accV
  split
  · rename_i he; subst he; exact .inl ⟨rfl, rfl⟩
  · rename_i hne
    have hp : 0 < cs.length := List.length_pos_iff.2 hne
    obtain ⟨n, hn⟩ := hd
    refine .inr ⟨A.n, cs.length / k, rfl, get_push_new, hN, (Nat.div_mul_cancel ⟨n, hn⟩).symm, Nat.div_pos ?_ hk⟩
    exact Nat.le_of_dvd hp ⟨n, hn⟩

theorem outHp_old {cs : List Value} {x : Nat} (hx : x < A.n) : (outHp A (accOut cs)).get x = A.get x := by
  unfold accOut
  split
  · rfl
  · exact get_push_old hx
theorem outHp_n {cs : List Value} : A.n ≤ (outHp A (accOut cs)).n := by
  unfold accOut
  split
  · exact Nat.le_refl _
  · exact Nat.le_succ _

theorem nearRows_five {w cell f tlo thi rlo rhi : Int} : ∀ (k i : Nat), 5 ∣ (nearRows w cell f tlo thi rlo rhi i k).length
  | 0, _ => ⟨0, rfl⟩
  | k + 1, i => by
    obtain ⟨n, hn⟩ := nearRows_five (w := w) (cell := cell) (f := f) (tlo := tlo) (thi := thi) (rlo := rlo) (rhi := rhi) k (i + 1)
    simp only [nearRows, List.length_append, hn]
    split
    · exact ⟨n + 1, by simp [rowS]; omega⟩
    · exact ⟨n, by simp⟩
theorem startCells_five : 5 ∣ (startCells w h s l k c cl lo hi).length := by
  unfold startCells
  split
  · exact nearRows_five _ _
  · exact ⟨0, rfl⟩

theorem S39_eq (hl : groundOf A sl = some l) (he : startErr w h s l k c cl lo hi = 0) : S39 g [.agg ⟨[.int .i64 w, .int .i64 h, .int .i64 s, sl]⟩, .agg ⟨[.int .i64 k, .int .i64 c, .int .i64 cl, .int .i64 lo, .int .i64 hi]⟩] A =
    some (accV A.n 5 (startCells w h s l k c cl lo hi), outHp A (accOut (startCells w h s l k c cl lo hi))) := by simp [S39, hl, he]

theorem w11 (hl : groundOf A sl = some l) (hQ : ∀ sv A', A.n ≤ A'.n → (∀ x, x < A.n → A'.get x = A.get x) → AccS A.n A' 5 (startCells w h s l k c cl lo hi) sv → V (.tuple ⟨[sv, .int .i64 (startErr w h s l k c cl lo hi)]⟩) A') :
    WF AP KL g 11 [gridV w h s sl, srcV k c cl lo hi] A V := by
  have hl1 : groundOf ((A.push (.cells [.int .i64 w, .int .i64 h, .int .i64 s, sl] false)).push (.cells [.int .i64 k, .int .i64 c, .int .i64 cl, .int .i64 lo, .int .i64 hi] false)) sl = some l :=
    groundOf_mono hl (fun x hx => by rw [get_push_old (by simp; omega), get_push_old hx])
  rw [WF_body rfl (show AP 11 = some F11 from rfl)]
  by_cases h1 : checkG w h s l = 0
  · by_cases h2 : srcErr l.length k c cl lo hi = 0
    · have he : startErr w h s l k c cl lo hi = 0 := by simp [startErr, h1, h2]
      simp (disch := first | omega | (as_aux_lemma => simp only [Hp.n_push, Hp.n_set, List.length_cons, List.length_nil, ints_length, List.length_append]) | (as_aux_lemma => simp [isCell]) | (simp only [Hp.n_push, Hp.n_set, List.length_cons, List.length_nil, ints_length, List.length_append]; omega)) [get_push_eq, get_push_old, set_push_old, partA_all, takeMarks, resA, resAll, resOne, Value.cells, gridV, srcV, J, WF_spec (show KL 37 = some S37 from rfl), S37_eq hl1, WF_spec (show KL 38 = some S38 from rfl), S38_eq hl1, WF_spec (show KL 39 = some S39 from rfl), S39_eq hl1 he, h1, h2]
      rw [he] at hQ
      refine hQ _ _ (Nat.le_trans ?_ outHp_n) (fun x hx => ?_) (accV_acc (by decide) startCells_five ?_)
      · simp; omega
      · rw [outHp_old (by simp; omega), get_push_old (by simp; omega), get_push_old hx]
      · simp; omega
    · have he : startErr w h s l k c cl lo hi = srcErr l.length k c cl lo hi := by simp [startErr, h1]
      simp (disch := first | omega | (as_aux_lemma => simp only [Hp.n_push, Hp.n_set, List.length_cons, List.length_nil, ints_length, List.length_append]) | (as_aux_lemma => simp [isCell]) | (simp only [Hp.n_push, Hp.n_set, List.length_cons, List.length_nil, ints_length, List.length_append]; omega)) [get_push_eq, get_push_old, set_push_old, partA_all, takeMarks, resA, resAll, resOne, Value.cells, gridV, srcV, J, WF_spec (show KL 37 = some S37 from rfl), S37_eq hl1, WF_spec (show KL 38 = some S38 from rfl), S38_eq hl1, h1, h2]
      rw [he] at hQ
      refine hQ _ _ ?_ (fun x hx => ?_) (.inl ⟨rfl, ?_⟩)
      · simp; omega
      · rw [get_push_old (by simp; omega), get_push_old hx]
      · unfold startCells; rw [if_neg (by rw [he]; exact h2)]
  · have he : startErr w h s l k c cl lo hi = checkG w h s l := by simp [startErr, h1]
    simp (disch := first | omega | (as_aux_lemma => simp only [Hp.n_push, Hp.n_set, List.length_cons, List.length_nil, ints_length, List.length_append]) | (as_aux_lemma => simp [isCell]) | (simp only [Hp.n_push, Hp.n_set, List.length_cons, List.length_nil, ints_length, List.length_append]; omega)) [get_push_eq, get_push_old, set_push_old, partA_all, takeMarks, resA, resAll, resOne, Value.cells, gridV, srcV, J, WF_spec (show KL 37 = some S37 from rfl), S37_eq hl1, h1]
    rw [he] at hQ
    refine hQ _ _ ?_ (fun x hx => ?_) (.inl ⟨rfl, ?_⟩)
    · simp; omega
    · rw [get_push_old (by simp; omega), get_push_old hx]
    · unfold startCells; rw [if_neg (by rw [he]; exact h1)]

end
end Go.Ab.Wave
/- WaveStarts: the law's walk. -/
namespace Go.Ab.Wave
open Go Go.Ab

def body2 : ACode := (.seq
 (.seq
 (.ops [
⟨some 47, none, [], .move (.t 11)⟩,
⟨some 48, none, [], .move (.t 7)⟩,
⟨some 49, none, [], .len (.t 48)⟩,
⟨some 50, none, [], .bin .lss (.t 47) (.t 49)⟩])
 (.cond (.t 50)
 .skip
 (.exit 0)))
 (.seq
 (.block 1
 (.seq
 (.ops [
⟨some 53, none, [], .move (.t 7)⟩,
⟨some 54, none, [], .move (.t 11)⟩,
⟨some 55, none, [], .idxS (.t 53) (.t 54) 5⟩,
⟨some 56, none, [], .fieldAddr (.t 55) 0⟩,
⟨some 57, none, [], .load (.t 56) none⟩,
⟨some 58, none, [], .move (.t 9)⟩,
⟨some 59, none, [], .move (.t 11)⟩,
⟨some 60, none, [], .idxS (.t 58) (.t 59) 5⟩,
⟨some 61, none, [], .fieldAddr (.t 60) 0⟩,
⟨some 62, none, [], .load (.t 61) none⟩,
⟨some 63, none, [], .bin .neq (.t 57) (.t 62)⟩,
⟨some 64, none, [], .move (.t 63)⟩,
⟨some 65, (some (64, false)), [], .move (.t 7)⟩,
⟨some 66, (some (64, false)), [], .move (.t 11)⟩,
⟨some 67, (some (64, false)), [], .idxS (.t 65) (.t 66) 5⟩,
⟨some 68, (some (64, false)), [], .fieldAddr (.t 67) 1⟩,
⟨some 69, (some (64, false)), [], .load (.t 68) (some 2)⟩,
⟨some 70, (some (64, false)), [], .move (.t 9)⟩,
⟨some 71, (some (64, false)), [], .move (.t 11)⟩,
⟨some 72, (some (64, false)), [], .idxS (.t 70) (.t 71) 5⟩,
⟨some 73, (some (64, false)), [], .fieldAddr (.t 72) 1⟩,
⟨some 74, (some (64, false)), [], .load (.t 73) (some 2)⟩,
⟨some 75, (some (64, false)), [], .eqv true [false, false] (.t 69) (.t 74)⟩,
⟨some 76, none, [], .pick (.t 64) (.k (.bool true)) (.t 75)⟩,
⟨some 77, none, [], .move (.t 76)⟩,
⟨some 78, (some (77, false)), [], .move (.t 7)⟩,
⟨some 79, (some (77, false)), [], .move (.t 11)⟩,
⟨some 80, (some (77, false)), [], .idxS (.t 78) (.t 79) 5⟩,
⟨some 81, (some (77, false)), [], .fieldAddr (.t 80) 3⟩,
⟨some 82, (some (77, false)), [], .load (.t 81) (some 2)⟩,
⟨some 83, (some (77, false)), [], .move (.t 9)⟩,
⟨some 84, (some (77, false)), [], .move (.t 11)⟩,
⟨some 85, (some (77, false)), [], .idxS (.t 83) (.t 84) 5⟩,
⟨some 86, (some (77, false)), [], .fieldAddr (.t 85) 3⟩,
⟨some 87, (some (77, false)), [], .load (.t 86) (some 2)⟩,
⟨some 88, (some (77, false)), [], .eqv true [false, false] (.t 82) (.t 87)⟩,
⟨some 89, none, [], .pick (.t 77) (.k (.bool true)) (.t 88)⟩])
 (.cond (.t 89)
 (.seq
 (.ops [
⟨some 6, none, [], .move (.k (.bool false))⟩])
 .ret)
 .skip)))
 (.ops [
⟨some 51, none, [], .move (.t 11)⟩,
⟨some 52, none, [], .bin .add (.t 51) (.k (.int .i64 1))⟩,
⟨some 11, none, [], .move (.t 52)⟩])))

section
variable {A : Hp} {sl : Value} {w h s k c cl lo hi : Int} {l : List (Int × Int)} {g : Nat} {V : Value → Hp → Prop}

theorem groundOf_push {b : ABlk} (h : groundOf A sl = some l) : groundOf (A.push b) sl = some l := groundOf_mono h fun x hx => get_push_old hx

theorem loop2 {zs : List Int} {n N M : Nat} {sa sb : Value} {D : List Nat} {rd : Option Nat} {Q : Ex → St → Prop} (ha : AccS N A 5 (ints zs) sa) (hb : AccS M A 5 (ints zs) sb) (hz : zs.length = n * 5) (hn : n < 1000000) (hQ : ∀ T', Q (.exit 0) ⟨T', D, A⟩) :
    ∀ (k i : Nat) (T : List Value), i + k = n → tget T 7 = sa → tget T 9 = sb → tget T 11 = .int .i64 i → W AP KL g rd (.loop body2) ⟨T, D, A⟩ Q := by
  have hla := ha.lenI (n := n) (by simpa using hz) (by decide)
  intro k
  induction k with
  | zero =>
    intro i T hi h7 h9 h11
    rw [W_loop]
    simp (disch := first | omega | (as_aux_lemma => simp only [Hp.n_push, Hp.n_set, List.length_cons, List.length_nil, ints_length, List.length_append]) | (as_aux_lemma => simp [isCell]) | (simp only [Hp.n_push, Hp.n_set, List.length_cons, List.length_nil, ints_length, List.length_append]; omega)) [get_push_eq, get_push_old, set_push_old, partA_all, takeMarks, resA, resAll, resOne, Value.cells, body2, h7, h9, h11, hla, show ¬ ((i : Int) < n) by omega, hQ]
  | succ k ih =>
    intro i T hi h7 h9 h11
    obtain ⟨x, rfl, hx⟩ := ha.someOf (i := i) (n := n) (by simpa using hz) (by omega) (by decide)
    obtain ⟨y, rfl, hy⟩ := hb.someOf (i := i) (n := n) (by simpa using hz) (by omega) (by decide)
    rw [W_loop]
    simp (disch := first | omega | (as_aux_lemma => simp only [Hp.n_push, Hp.n_set, List.length_cons, List.length_nil, ints_length, List.length_append]) | (as_aux_lemma => simp [isCell]) | (simp only [Hp.n_push, Hp.n_set, List.length_cons, List.length_nil, ints_length, List.length_append]; omega)) [get_push_eq, get_push_old, set_push_old, partA_all, takeMarks, resA, resAll, resOne, Value.cells, body2, h7, h9, h11, show ((i : Int) < n) by omega, show i < n by omega, idxSA_ok, hx, hy, ints_get, ints_two, eqv2]
    refine ih (i + 1) _ (by omega) ?_ ?_ ?_
    · simp [h7]
    · simp [h9]
    · simp [wrId (n := (i : Int) + 1) (by omega) (by omega)]

theorem nearRows_ints {w cell f tlo thi rlo rhi : Int} : ∀ (k i : Nat), ∃ zs, nearRows w cell f tlo thi rlo rhi i k = ints zs ∧ zs.length ≤ k * 5
  | 0, _ => ⟨[], rfl, by simp⟩
  | k + 1, i => by
    obtain ⟨zs, hz, hl⟩ := nearRows_ints (w := w) (cell := cell) (f := f) (tlo := tlo) (thi := thi) (rlo := rlo) (rhi := rhi) k (i + 1)
    simp only [nearRows, hz]
    split
    · exact ⟨i :: tlo :: thi :: rlo :: rhi :: zs, rfl, by simp; omega⟩
    · exact ⟨zs, rfl, by omega⟩
theorem startCells_ints : ∃ zs n, startCells w h s l k c cl lo hi = ints zs ∧ zs.length = n * 5 ∧ n ≤ l.length := by
  obtain ⟨n, hn⟩ := startCells_five (w := w) (h := h) (s := s) (k := k) (c := c) (cl := cl) (lo := lo) (hi := hi) (l := l)
  unfold startCells at hn ⊢
  split
  · rename_i he
    obtain ⟨zs, hz, hl⟩ := nearRows_ints (w := w) (cell := c) (f := farK k cl) (tlo := lo) (thi := hi) (rlo := riseLo k (pw cl)) (rhi := riseHi k (pw cl)) l.length 0
    rw [if_pos he, hz, ints_length] at hn
    exact ⟨zs, n, hz, by omega, by omega⟩
  · exact ⟨[], 0, rfl, rfl, by omega⟩

theorem S12_eq (hl : groundOf A sl = some l) (hn : l.length < 1000000) : S12 g [.agg ⟨[.int .i64 w, .int .i64 h, .int .i64 s, sl]⟩, .agg ⟨[.int .i64 k, .int .i64 c, .int .i64 cl, .int .i64 lo, .int .i64 hi]⟩] A =
    some (.tuple ⟨[accV A.n 5 (startCells w h s l k c cl lo hi), .int .i64 (startErr w h s l k c cl lo hi)]⟩, outHp A (accOut (startCells w h s l k c cl lo hi))) := by simp [S12, hl, hn, J]
theorem S13_eq {a b c d e f : Int} : S13 g [.agg ⟨[.int .i64 a, .int .i64 b, .int .i64 c, .int .i64 d, .int .i64 e, .int .i64 f]⟩] A = some (.int .i64 (checkM a b c d e f), A) := rfl
theorem S14_eq {a b c d e f : Int} : S14 g [.agg ⟨[.int .i64 a, .int .i64 b, .int .i64 c, .int .i64 d, .int .i64 e, .int .i64 f]⟩] A = some (.agg ⟨[.int .i64 a, .int .i64 b, .int .i64 c, .int .i64 d, .int .i64 e, .int .i64 f]⟩, A) := rfl
theorem works_eq : memoSpec [mWorks] g [] A = some (.bool true, A) := rfl

def modelV (a b c d e f : Int) : Value := .agg ⟨[.int .i64 a, .int .i64 b, .int .i64 c, .int .i64 d, .int .i64 e, .int .i64 f]⟩

theorem w2 {ma mb mc md me mf : Int} (hl : groundOf A sl = some l) (hQ : ∀ A', V (.bool true) A') : WF AP KL g 2 [modelV ma mb mc md me mf, gridV w h s sl, srcV k c cl lo hi] A V := by
  have hlen : lenV sl = some (.int .i64 l.length) := by
    rcases (groundOf_cases hl).2 with ⟨rfl, rfl⟩ | ⟨x, cap, ro, rfl, _⟩
    · rfl
    · rfl
  rw [WF_body rfl (show AP 2 = some F2 from rfl)]
  by_cases h6 : l.length ≤ 600
  · simp (disch := first | omega | (as_aux_lemma => simp only [Hp.n_push, Hp.n_set, List.length_cons, List.length_nil, ints_length, List.length_append]) | (as_aux_lemma => simp [isCell]) | (simp only [Hp.n_push, Hp.n_set, List.length_cons, List.length_nil, ints_length, List.length_append]; omega)) [get_push_eq, get_push_old, set_push_old, partA_all, takeMarks, resA, resAll, resOne, Value.cells, modelV, gridV, srcV, J, hlen, show ¬ ((600 : Int) < l.length) by omega]
    refine w11 (groundOf_push (groundOf_push (groundOf_push hl))) fun sv A' hn hold hacc => ?_
    have hl' : groundOf A' sl = some l := groundOf_mono (groundOf_push (groundOf_push (groundOf_push hl))) hold
    have g0 := hold A.n (by simp; omega)
    have g1 := hold (A.n + 1) (by simp)
    have g2 := hold (A.n + 2) (by simp)
    simp (disch := first | omega | (as_aux_lemma => simp only [Hp.n_push, Hp.n_set, List.length_cons, List.length_nil, ints_length, List.length_append]) | (as_aux_lemma => simp [isCell]) | (simp only [Hp.n_push, Hp.n_set, List.length_cons, List.length_nil, ints_length, List.length_append]; omega)) [get_push_eq, get_push_old, set_push_old, partA_all, takeMarks, resA, resAll, resOne, Value.cells, ] at g0 g1 g2 hn
    obtain ⟨zs, n, hz, hzl, hnl⟩ := startCells_ints (w := w) (h := h) (s := s) (k := k) (c := c) (cl := cl) (lo := lo) (hi := hi) (l := l)
    have ha : AccS 0 (outHp A' (accOut (startCells w h s l k c cl lo hi))) 5 (ints zs) sv := by rw [hz] at hacc ⊢; exact (hacc.mono fun x hx => outHp_old hx).weaken (Nat.zero_le _)
    have hb : AccS 0 (outHp A' (accOut (startCells w h s l k c cl lo hi))) 5 (ints zs) (accV A'.n 5 (startCells w h s l k c cl lo hi)) := by rw [hz]; exact accV_acc (by decide) ⟨n, by rw [ints_length]; omega⟩ (Nat.zero_le _)
    have la := ha.lenI (n := n) (by rw [ints_length]; omega) (by decide)
    have lb := hb.lenI (n := n) (by rw [ints_length]; omega) (by decide)
    have g3 : (outHp A' (accOut (startCells w h s l k c cl lo hi))).get A.n = _ := (outHp_old (by omega)).trans g0
    simp (disch := first | omega | (as_aux_lemma => simp only [Hp.n_push, Hp.n_set, List.length_cons, List.length_nil, ints_length, List.length_append]) | (as_aux_lemma => simp [isCell]) | (simp only [Hp.n_push, Hp.n_set, List.length_cons, List.length_nil, ints_length, List.length_append]; omega)) [get_push_eq, get_push_old, set_push_old, partA_all, takeMarks, resA, resAll, resOne, Value.cells, g0, g1, g2, g3, WF_spec (show KL 12 = some S12 from rfl), S12_eq hl' (show l.length < 1000000 by omega), WF_spec (show KL 13 = some S13 from rfl), WF_spec (show KL 14 = some S14 from rfl), WF_spec (show KL 15 = some S13 from rfl), S13_eq, S14_eq, la, lb]
    refine loop2 ha hb hzl (by omega) (fun T' => ?_) n 0 _ (by omega) ?_ ?_ ?_
    · simp (disch := first | omega | (as_aux_lemma => simp only [Hp.n_push, Hp.n_set, List.length_cons, List.length_nil, ints_length, List.length_append]) | (as_aux_lemma => simp [isCell]) | (simp only [Hp.n_push, Hp.n_set, List.length_cons, List.length_nil, ints_length, List.length_append]; omega)) [get_push_eq, get_push_old, set_push_old, partA_all, takeMarks, resA, resAll, resOne, Value.cells, WF_spec (show KL 10 = some (memoSpec [mWorks]) from rfl), works_eq, hQ]
    · simp
    · simp
    · simp
  · simp (disch := first | omega | (as_aux_lemma => simp only [Hp.n_push, Hp.n_set, List.length_cons, List.length_nil, ints_length, List.length_append]) | (as_aux_lemma => simp [isCell]) | (simp only [Hp.n_push, Hp.n_set, List.length_cons, List.length_nil, ints_length, List.length_append]; omega)) [get_push_eq, get_push_old, set_push_old, partA_all, takeMarks, resA, resAll, resOne, Value.cells, modelV, gridV, srcV, J, hlen, show ((600 : Int) < l.length) by omega, WF_spec (show KL 10 = some (memoSpec [mWorks]) from rfl), works_eq, hQ]

end
end Go.Ab.Wave
/- A law's arguments, in the form that the abstract executor takes: plain cells, and slices of plain cells in rows. -/
namespace Go.Ab
open Go

/-! ### Types of plain cells, and of slices of them -/

inductive Ty where
  | int (k : IntKind)
  | bool
  | str
  | unit
  | pair (a b : Ty)
  | slice (e : Ty)

def Ty.size : Ty → Nat
  | .unit => 0
  | .pair a b => a.size + b.size
  | _ => 1
def Ty.plain : Ty → Bool
  | .slice _ => false
  | .pair a b => a.plain && b.plain
  | _ => true
def Ty.rep : Nat → Ty → Ty
  | 0, _ => .unit
  | n + 1, e => .pair e (rep n e)

def fieldsTy (rec : TypeId → Option Ty) (P : Program) : Nat → List Field → Option Ty
  | _, [] => some .unit
  | off, f :: fs => match rec f.type with
    | some tf => if f.offset = off ∧ tf.size = P.cellsOf f.type then (fieldsTy rec P (off + tf.size) fs).map fun r => .pair tf r else none
    | none => none

def tyOf (P : Program) : Nat → TypeId → Option Ty
  | 0, _ => none
  | fuel + 1, t => match P.underlying t with
    | some .bool => some .bool
    | some (.int k) => some (.int k)
    | some .string => some .str
    | some (.slice e) => match tyOf P fuel e with
      | some te => if te.size = P.cellsOf e ∧ te.plain = true ∧ 0 < te.size then some (.slice te) else none
      | none => none
    | some (.struct fs) => match fieldsTy (tyOf P fuel) P 0 fs.toList with
      | some ty => if ty.size = P.cellsOf t then some ty else none
      | none => none
    | some (.array n e) => match tyOf P fuel e with
      | some te => if te.size = P.cellsOf e ∧ n * te.size = P.cellsOf t then some (.rep n te) else none
      | none => none
    | _ => none

theorem Ty.rep_size (e : Ty) : ∀ n, (Ty.rep n e).size = n * e.size
  | 0 => by simp [Ty.rep, Ty.size]
  | n + 1 => by simp only [Ty.rep, Ty.size, Ty.rep_size e n, Nat.succ_mul]; omega
theorem Ty.rep_plain {e : Ty} : ∀ {n}, 0 < n → (Ty.rep n e).plain = true → e.plain = true
  | n + 1, _, h => by simp only [Ty.rep, Ty.plain, Bool.and_eq_true] at h; exact h.1

/-- Cells of this type; rows: what slices lead to. -/
def Sh (rows : List (List Value)) : Ty → List Value → Prop
  | .int k, cs => ∃ n, cs = [.int k n] ∧ (Lit.int k n).wf = true
  | .bool, cs => ∃ b, cs = [.bool b]
  | .str, cs => ∃ s : ByteArray, cs = [.string s] ∧ s.size ≤ maxLen
  | .unit, cs => cs = []
  | .pair a b, cs => ∃ l r, cs = l ++ r ∧ Sh rows a l ∧ Sh rows b r
  | .slice e, cs => cs = [.slice none 0 0] ∨ ∃ x n c row, cs = [.slice (some ⟨x, 0, some e.size⟩) n c] ∧ n ≤ maxLen ∧ rows[x]? = some row ∧ row.length = n * e.size ∧ row.all simple = true ∧
      ∃ f : Nat → List Value, row = (List.range n).flatMap f ∧ ∀ i, i < n → Sh rows e (f i) ∧ (f i).length = e.size

theorem Sh.mono {rows rows' : List (List Value)} (h : ∀ (i : Nat) r, rows[i]? = some r → rows'[i]? = some r) : ∀ {t : Ty} {cs : List Value}, Sh rows t cs → Sh rows' t cs
  | .int _, _, hs => hs
  | .bool, _, hs => hs
  | .str, _, hs => hs
  | .unit, _, hs => hs
  | .pair a b, cs, ⟨l, r, h1, h2, h3⟩ => ⟨l, r, h1, Sh.mono h h2, Sh.mono h h3⟩
  | .slice e, cs, hs => by
    rcases hs with hs | ⟨x, n, c, row, h1, h2, h3, h4, h5, f, h6, h7⟩
    · exact .inl hs
    · exact .inr ⟨x, n, c, row, h1, h2, h _ _ h3, h4, h5, f, h6, fun i hi => ⟨Sh.mono h (h7 i hi).1, (h7 i hi).2⟩⟩

theorem Sh.length {rows : List (List Value)} : ∀ {t : Ty} {cs : List Value}, Sh rows t cs → cs.length = t.size
  | .int _, _, ⟨_, h, _⟩ => by rw [h]; rfl
  | .bool, _, ⟨_, h⟩ => by rw [h]; rfl
  | .str, _, ⟨_, h, _⟩ => by rw [h]; rfl
  | .unit, _, h => by rw [show _ = [] from h]; rfl
  | .pair a b, _, ⟨l, r, h1, h2, h3⟩ => by rw [h1, List.length_append, Sh.length h2, Sh.length h3]; rfl
  | .slice e, _, hs => by
    rcases hs with hs | ⟨x, n, c, row, h1, _⟩
    · rw [hs]; rfl
    · rw [h1]; rfl

theorem Sh.simple {rows : List (List Value)} : ∀ {t : Ty} {cs : List Value}, t.plain = true → Sh rows t cs → cs.all simple = true
  | .int _, _, _, ⟨_, h, _⟩ => by rw [h]; rfl
  | .bool, _, _, ⟨_, h⟩ => by rw [h]; rfl
  | .str, _, _, ⟨_, h, _⟩ => by rw [h]; rfl
  | .unit, _, _, h => by rw [show _ = [] from h]; rfl
  | .pair a b, _, hp, ⟨l, r, h1, h2, h3⟩ => by
    simp only [Ty.plain, Bool.and_eq_true] at hp
    rw [h1, List.all_append, Sh.simple hp.1 h2, Sh.simple hp.2 h3]; rfl
  | .slice e, _, hp, _ => by simp [Ty.plain] at hp

theorem sh_rep {rows : List (List Value)} {e : Ty} : ∀ {n : Nat} {cs : List Value}, cs.length = n * e.size → (∀ i, i < n → Sh rows e ((cs.drop (i * e.size)).take e.size)) → Sh rows (.rep n e) cs
  | 0, cs, hl, _ => List.eq_nil_of_length_eq_zero (by simpa using hl)
  | n + 1, cs, hl, h => by
    have hm : (n + 1) * e.size = n * e.size + e.size := Nat.succ_mul n e.size
    refine ⟨cs.take e.size, cs.drop e.size, (List.take_append_drop _ _).symm, by simpa using h 0 (by omega), sh_rep (by rw [List.length_drop]; omega) fun i hi => ?_⟩
    have := h (i + 1) (by omega)
    rwa [Nat.succ_mul, Nat.add_comm (i * e.size), ← List.drop_drop] at this

/-! ### From the reading to the abstract cells -/

section
variable {H : Type} {enc : TypeId × Value → H} {E : Env} {w : World}

/-- Slices lead to blocks of cells. -/
def Leads (w : World) (v : Value) : Prop := ∀ a n q, v = .slice (some a) n q → a.spot = none ∧ ∃ c el fr, w.heap[a.block]? = some (.cells c el fr)

structure Good (E : Env) (w : World) (rows : List (List Value)) (φ : NM) : Prop where
  dom : ∀ x, rows.length ≤ x → φ x = none
  row : ∀ i r, rows[i]? = some r → ∃ e, φ i = some e ∧ e.blk < w.heap.size ∧ RelB E φ w (.cells r true) e
  plain : ∀ r ∈ rows, r.all simple = true

/-- rows' has rows ac its beginning. -/
def More (rows rows' : List (List Value)) : Prop := ∀ (i : Nat) r, rows[i]? = some r → rows'[i]? = some r
theorem More.refl (rows : List (List Value)) : More rows rows := fun _ _ h => h
theorem More.trans {a b c : List (List Value)} (h : More a b) (h' : More b c) : More a c := fun i r hr => h' i r (h i r hr)

theorem plain_cells : ∀ (F : Nat) (ty : Ty) (t : TypeId) (cs : List Value) (fuel : Nat) (x : DataW H × List MemPlace), tyOf E.P F t = some ty → ty.plain = true → DataW.trod enc E.P w 0 (fun _ => true) true fuel t cs = some x → Sh [] ty cs := by
  intro F
  induction F with
  | zero => intro ty t cs fuel x h; cases h
  | succ F ih =>
    have hf : ∀ (fs : List Field) (off : Nat) (ty : Ty) (cs : List Value) (n : Nat) (xs : List (DataW H × List MemPlace)), fieldsTy (tyOf E.P F) E.P off fs = some ty → ty.plain = true → cs.length = off + ty.size →
        (∀ (i : Nat) (f : Field), fs[i]? = some f → ∃ y, DataW.trod enc E.P w 0 (fun _ => true) true n f.type ((cs.drop f.offset).take (E.P.cellsOf f.type)) = some y) → Sh [] ty (cs.drop off) := by
      intro fs
      induction fs with
      | nil =>
        intro off ty cs n xs h1 h2 h3 h4
        cases h1
        exact List.drop_eq_nil_of_le (by simp [Ty.size] at h3; omega)
      | cons f fs ihf =>
        intro off ty cs n xs h1 h2 h3 h4
        simp only [fieldsTy] at h1
        split at h1
        · rename_i tf htf
          split at h1
          · rename_i hc
            rw [Option.map_eq_some_iff] at h1
            obtain ⟨r, hr, rfl⟩ := h1
            simp only [Ty.plain, Bool.and_eq_true] at h2
            obtain ⟨y, hy⟩ := h4 0 f rfl
            have k1 := ih tf f.type _ n y htf h2.1 hy
            have k2 := ihf (off + tf.size) r cs n xs hr h2.2 (by simp only [Ty.size] at h3; omega) fun i g hg => h4 (i + 1) g (by simpa using hg)
            refine ⟨_, _, ?_, k1, k2⟩
            rw [hc.1, ← hc.2, ← List.drop_drop, List.take_append_drop]
          · cases h1
        · cases h1
    intro ty t cs fuel x h hp hx
    simp only [tyOf] at h
    split at h
    · rename_i ht; cases h; obtain ⟨b, rfl, _⟩ := DataW.trod_bool ht hx; exact ⟨b, rfl⟩
    · rename_i k ht; cases h; obtain ⟨n, rfl, _, hw⟩ := DataW.trod_int ht hx; exact ⟨n, rfl, hw⟩
    · rename_i ht; cases h; obtain ⟨s, rfl, _, hs⟩ := DataW.trod_string ht hx; exact ⟨s, rfl, hs⟩
    · split at h
      · split at h
        · cases h; simp [Ty.plain] at hp
        · cases h
      · cases h
    · rename_i fs ht
      split at h
      · rename_i ty' hty
        split at h
        · rename_i hsz
          cases h
          obtain ⟨xs, n, _, _, hl, hxl, hget⟩ := DataW.trod_struct ht hx
          have := hf fs.toList 0 ty cs n xs hty hp (by rw [hl, hsz, Nat.zero_add]) fun i f hi => by
            have hi' : fs[i]? = some f := by simpa using hi
            have hlt : i < xs.length := by rw [hxl]; exact (Array.getElem?_eq_some_iff.1 hi').1
            exact ⟨xs[i], by rw [hget i f hi', List.getElem?_eq_getElem hlt]⟩
          simpa using this
        · cases h
      · cases h
    · rename_i n e ht
      split at h
      · rename_i te hte
        split at h
        · rename_i hsz
          cases h
          obtain ⟨xs, m, _, _, hl, hxl, hget⟩ := DataW.trod_array ht hx
          refine sh_rep (by rw [hl, hsz.2]) fun i hi => ?_
          rw [hsz.1]
          refine ih te e _ m xs[i] hte (Ty.rep_plain (by omega) hp) ?_
          rw [hget i hi, List.getElem?_eq_getElem]
        · cases h
      · cases h
    · cases h

theorem flat_at {n k : Nat} {f : Nat → List Value} (hf : ∀ q, q < n → (f q).length = k) : ∀ {i : Nat} {v : Value}, ((List.range n).flatMap f)[i]? = some v → ∃ q r, q < n ∧ r < k ∧ i = q * k + r ∧ (f q)[r]? = some v := by
  induction n with
  | zero => intro i v h; simp at h
  | succ n ih =>
    intro i v h
    have hlen : ((List.range n).flatMap f).length = n * k := by
      have : ∀ m, m ≤ n → ((List.range m).flatMap f).length = m * k := by
        intro m
        induction m with
        | zero => intro _; simp
        | succ m ihm => intro hm; rw [List.range_succ, List.flatMap_append, List.length_append, ihm (by omega), Nat.succ_mul]; simp [hf m (by omega)]
      exact this n (Nat.le_refl _)
    rw [List.range_succ, List.flatMap_append] at h
    by_cases hi : i < n * k
    · rw [List.getElem?_append_left (by rw [hlen]; exact hi)] at h
      obtain ⟨q, r, h1, h2, h3, h4⟩ := ih (fun q hq => hf q (by omega)) h
      exact ⟨q, r, by omega, h2, h3, h4⟩
    · rw [List.getElem?_append_right (by rw [hlen]; omega), hlen] at h
      have h' : (f n)[i - n * k]? = some v := by simpa using h
      have hlt := (List.getElem?_eq_some_iff.1 h').1
      rw [hf n (by omega)] at hlt
      exact ⟨n, i - n * k, by omega, hlt, by omega, h'⟩

theorem flat_len {n k : Nat} {f : Nat → List Value} (hf : ∀ q, q < n → (f q).length = k) : ((List.range n).flatMap f).length = n * k := by
  induction n with
  | zero => simp
  | succ n ih => rw [List.range_succ, List.flatMap_append, List.length_append, ih fun q hq => hf q (by omega), Nat.succ_mul]; simp [hf n (by omega)]

theorem cell_add {a : Addr} {c : Array Value} {el : TypeId} {fr : Nat × Nat} (hs : a.spot = none) (hb : w.heap[a.block]? = some (.cells c el fr)) (j : Nat) : w.cell? (a.add j) = c[a.off + j]? := by
  obtain ⟨b, off, spot⟩ := a
  subst hs
  unfold Addr.add World.cell?
  by_cases hj : j = 0
  · subst hj; simp at hb ⊢; simp [hb]
  · simp [hj] at hb ⊢; simp [hb]

theorem Good.push {rows : List (List Value)} {φ : NM} (h : Good E w rows φ) {r : List Value} {e : Ent} (hr : r.all simple = true) (hb : e.blk < w.heap.size) (hB : ∀ φ', RelB E φ' w (.cells r true) e) :
    Good E w (rows ++ [r]) (fun x => if x = rows.length then some e else φ x) ∧ Ext φ (fun x => if x = rows.length then some e else φ x) ∧ More rows (rows ++ [r]) := by
  have hext : Ext φ (fun x => if x = rows.length then some e else φ x) := fun x ex hx => by
    by_cases h' : x = rows.length
    · subst h'; rw [h.dom _ (Nat.le_refl _)] at hx; cases hx
    · simp only [if_neg h']; exact hx
  refine ⟨⟨fun x hx => ?_, fun i r' hr' => ?_, fun r' hr' => ?_⟩, hext, fun i r' hr' => ?_⟩
  · simp at hx
    simp only [if_neg (show ¬ x = rows.length by omega)]
    exact h.dom x (by omega)
  · by_cases hi : i < rows.length
    · rw [List.getElem?_append_left hi] at hr'
      obtain ⟨ex, h1, h2, h3⟩ := h.row i r' hr'
      exact ⟨ex, hext i ex h1, h2, h3.mono hext rfl⟩
    · rw [List.getElem?_append_right (by omega)] at hr'
      have : i = rows.length := by
        rcases Nat.eq_or_lt_of_le (Nat.le_of_not_lt hi) with h' | h'
        · exact h'.symm
        · rw [List.getElem?_eq_none (by simp; omega)] at hr'; cases hr'
      subst this
      simp at hr'
      subst hr'
      exact ⟨e, by simp, hb, hB _⟩
  · rcases List.mem_append.1 hr' with h' | h'
    · exact h.plain r' h'
    · simp at h'; subst h'; exact hr
  · have := (List.getElem?_eq_some_iff.1 hr').1
    rw [List.getElem?_append_left this]; exact hr'

theorem slice_cells {F : Nat} {te : Ty} {t e : TypeId} {cs : List Value} {fuel : Nat} {x : DataW H × List MemPlace} (ht : E.P.underlying t = some (.slice e)) (hte : tyOf E.P F e = some te) (hsz : te.size = E.P.cellsOf e) (hp : te.plain = true) (h0 : 0 < te.size)
    (hx : DataW.trod enc E.P w 0 (fun _ => true) true fuel t cs = some x) (hl : ∀ v ∈ cs, Leads w v) {rows : List (List Value)} {φ : NM} (hg : Good E w rows φ) :
    ∃ rows' φ' ac, More rows rows' ∧ Ext φ φ' ∧ Good E w rows' φ' ∧ RelL E.lab φ' ac cs ∧ Sh rows' (.slice te) ac := by
  rcases Go.Deep.open_slice ht hx with ⟨rfl, _⟩ | ⟨a, len, cap, m, n, D, Pl, rfl, _, hlen, hcap, hm, _, hel⟩
  · exact ⟨rows, φ, [.slice none 0 0], More.refl _, Ext.refl _, hg, RelL.cons .nilSlice RelL.nil, .inl rfl⟩
  · simp only [if_true] at hm
    subst hm
    obtain ⟨hs, c, el, fr, hb⟩ := hl _ (List.mem_singleton.2 rfl) a len m rfl
    obtain ⟨f, hf⟩ := Go.Deep.choose_lt (α := List Value) (p := fun i cs' => E.P.cellsOf e = cs'.length ∧ (∀ j, j < cs'.length → c[a.off + (i * te.size + j)]? = cs'[j]?) ∧ Sh [] te cs') (n := m) fun i hi => by
      obtain ⟨cs', h1, h2⟩ := hel i hi
      obtain ⟨_, h4, h5⟩ := World.cells?_some h1
      refine ⟨cs', h4.symm, fun j hj => ?_, plain_cells F te e cs' n _ hte hp h2⟩
      rw [← h5 j (by omega), Go.Deep.add_add, cell_add hs hb, hsz]
    have hfl : ∀ q, q < len → (f q).length = te.size := fun q hq => by rw [hsz]; exact (hf q (by omega)).1.symm
    have hrl : ((List.range len).flatMap f).length = len * te.size := flat_len hfl
    have hsimple : ((List.range len).flatMap f).all simple = true := by
      rw [List.all_eq_true]
      intro v hv
      obtain ⟨q, hq, hv⟩ := List.mem_flatMap.1 hv
      exact List.all_eq_true.1 (Sh.simple hp (hf q (by simp at hq; omega)).2.2) v hv
    have hsize : m = 0 ∨ a.off + m * te.size ≤ c.size := by
      rcases Nat.eq_zero_or_pos m with h | h
      · exact .inl h
      · right
        obtain ⟨h1, h2, h3⟩ := hf (m - 1) (by omega)
        have h4 := h2 (te.size - 1) (by omega)
        rw [List.getElem?_eq_getElem (by omega)] at h4
        have := (Array.getElem?_eq_some_iff.1 h4).1
        have e1 : (m - 1) * te.size + te.size = m * te.size := by rw [← Nat.succ_mul]; congr 1; omega
        omega
    have hlt : len * te.size ≤ m * te.size := Nat.mul_le_mul_right _ hlen
    have hbl : a.block < w.heap.size := (Array.getElem?_eq_some_iff.1 hb).1
    obtain ⟨g1, g2, g3⟩ := hg.push (r := (List.range len).flatMap f) (e := ⟨a.block, if m = 0 then 0 else a.off, c.size⟩) hsimple hbl (fun φ' => by
      refine ⟨c, el, fr, hb, rfl, ?_, fun h => (by cases h), ?_⟩
      · by_cases hz : m = 0
        · subst hz; simp [show len = 0 by omega]
        · simp only [if_neg hz]; rw [hrl]; rcases hsize with h | h
          · exact absurd h hz
          · omega
      · intro i v hv
        obtain ⟨q, r, h1, h2, h3, h4⟩ := flat_at hfl hv
        by_cases hz : m = 0
        · omega
        · simp only [if_neg hz]
          obtain ⟨k1, k2, k3⟩ := hf q (by omega)
          refine ⟨v, ?_, relV_simple (List.all_eq_true.1 (Sh.simple hp k3) v (List.mem_of_getElem? h4))⟩
          rw [h3, k2 r (by omega), h4])
    refine ⟨_, _, [.slice (some ⟨rows.length, 0, some te.size⟩) len len], g3, g2, g1, RelL.cons ?_ RelL.nil, .inr ⟨rows.length, len, len, (List.range len).flatMap f, rfl, by omega, by simp, hrl, hsimple, f, rfl, fun i hi => ⟨Sh.mono (fun i r h => by simp at h) (hf i (by omega)).2.2, hfl i hi⟩⟩⟩
    have he : a = ⟨a.block, a.off, none⟩ := by cases a; simp at hs; subst hs; rfl
    rw [he]
    refine RelV.slice (e := ⟨a.block, if m = 0 then 0 else a.off, c.size⟩) (by simp) hlen hlen ?_
    by_cases hz : m = 0
    · exact .inl hz
    · simp only [if_neg hz]
      rcases hsize with h | h
      · exact absurd h hz
      · exact .inr ⟨by omega, h⟩

theorem abs_cells : ∀ (F : Nat) (ty : Ty) (t : TypeId) (cs : List Value) (fuel : Nat) (x : DataW H × List MemPlace), tyOf E.P F t = some ty → DataW.trod enc E.P w 0 (fun _ => true) true fuel t cs = some x → (∀ v ∈ cs, Leads w v) →
    ∀ (rows : List (List Value)) (φ : NM), Good E w rows φ → ∃ rows' φ' ac, More rows rows' ∧ Ext φ φ' ∧ Good E w rows' φ' ∧ RelL E.lab φ' ac cs ∧ Sh rows' ty ac := by
  intro F
  induction F with
  | zero => intro ty t cs fuel x h; cases h
  | succ F ih =>
    have hf : ∀ (fs : List Field) (off : Nat) (ty : Ty) (cs : List Value) (n : Nat), fieldsTy (tyOf E.P F) E.P off fs = some ty → cs.length = off + ty.size → (∀ v ∈ cs, Leads w v) →
        (∀ (i : Nat) (f : Field), fs[i]? = some f → ∃ y, DataW.trod enc E.P w 0 (fun _ => true) true n f.type ((cs.drop f.offset).take (E.P.cellsOf f.type)) = some y) →
        ∀ (rows : List (List Value)) (φ : NM), Good E w rows φ → ∃ rows' φ' ac, More rows rows' ∧ Ext φ φ' ∧ Good E w rows' φ' ∧ RelL E.lab φ' ac (cs.drop off) ∧ Sh rows' ty ac := by
      intro fs
      induction fs with
      | nil =>
        intro off ty cs n h1 h3 hl h4 rows φ hg
        cases h1
        refine ⟨rows, φ, [], More.refl _, Ext.refl _, hg, ?_, rfl⟩
        rw [List.drop_eq_nil_of_le (by simp [Ty.size] at h3; omega)]
        exact RelL.nil
      | cons f fs ihf =>
        intro off ty cs n h1 h3 hl h4 rows φ hg
        simp only [fieldsTy] at h1
        split at h1
        · rename_i tf htf
          split at h1
          · rename_i hc
            rw [Option.map_eq_some_iff] at h1
            obtain ⟨r, hr, rfl⟩ := h1
            obtain ⟨y, hy⟩ := h4 0 f rfl
            obtain ⟨rows1, φ1, ac1, a1, a2, a3, a4, a5⟩ := ih tf f.type _ n y htf hy (fun v hv => hl v (List.mem_of_mem_drop (List.mem_of_mem_take hv))) rows φ hg
            obtain ⟨rows2, φ2, ac2, b1, b2, b3, b4, b5⟩ := ihf (off + tf.size) r cs n hr (by simp only [Ty.size] at h3; omega) hl (fun i g hg => h4 (i + 1) g (by simpa using hg)) rows1 φ1 a3
            refine ⟨rows2, φ2, ac1 ++ ac2, a1.trans b1, a2.trans b2, b3, ?_, ac1, ac2, rfl, a5.mono b1, b5⟩
            have := (a4.mono b2).append b4
            rwa [hc.1, ← hc.2, ← List.drop_drop, List.take_append_drop] at this
          · cases h1
        · cases h1
    have ha : ∀ (te : Ty) (e : TypeId) (fuel : Nat), tyOf E.P F e = some te → ∀ (n : Nat) (cs : List Value), cs.length = n * te.size → (∀ v ∈ cs, Leads w v) →
        (∀ i, i < n → ∃ y, DataW.trod enc E.P w 0 (fun _ => true) true fuel e ((cs.drop (i * te.size)).take te.size) = some y) →
        ∀ (rows : List (List Value)) (φ : NM), Good E w rows φ → ∃ rows' φ' ac, More rows rows' ∧ Ext φ φ' ∧ Good E w rows' φ' ∧ RelL E.lab φ' ac cs ∧ Sh rows' (.rep n te) ac := by
      intro te e fuel hte n
      induction n with
      | zero =>
        intro cs hl _ _ rows φ hg
        rw [show cs = [] from List.eq_nil_of_length_eq_zero (by simpa using hl)]
        exact ⟨rows, φ, [], More.refl _, Ext.refl _, hg, RelL.nil, rfl⟩
      | succ n ihn =>
        intro cs hl hld h4 rows φ hg
        have hm : (n + 1) * te.size = n * te.size + te.size := Nat.succ_mul n te.size
        obtain ⟨y, hy⟩ := h4 0 (by omega)
        simp only [Nat.zero_mul, List.drop_zero] at hy
        obtain ⟨rows1, φ1, ac1, a1, a2, a3, a4, a5⟩ := ih te e _ fuel y hte hy (fun v hv => hld v (List.mem_of_mem_take hv)) rows φ hg
        obtain ⟨rows2, φ2, ac2, b1, b2, b3, b4, b5⟩ := ihn (cs.drop te.size) (by rw [List.length_drop]; omega) (fun v hv => hld v (List.mem_of_mem_drop hv)) (fun i hi => by
          obtain ⟨z, hz⟩ := h4 (i + 1) (by omega)
          rw [Nat.succ_mul, Nat.add_comm (i * te.size), ← List.drop_drop] at hz
          exact ⟨z, hz⟩) rows1 φ1 a3
        refine ⟨rows2, φ2, ac1 ++ ac2, a1.trans b1, a2.trans b2, b3, ?_, ac1, ac2, rfl, a5.mono b1, b5⟩
        have := (a4.mono b2).append b4
        rwa [List.take_append_drop] at this
    intro ty t cs fuel x h hx hl rows φ hg
    have plain : ∀ {s : Ty}, s.plain = true → Sh rows s cs → ∃ rows' φ' ac, More rows rows' ∧ Ext φ φ' ∧ Good E w rows' φ' ∧ RelL E.lab φ' ac cs ∧ Sh rows' s ac :=
      fun hp hs => ⟨rows, φ, cs, More.refl _, Ext.refl _, hg, relL_simple (Sh.simple hp hs), hs⟩
    simp only [tyOf] at h
    split at h
    · rename_i ht; cases h; obtain ⟨b, rfl, _⟩ := DataW.trod_bool ht hx; exact plain rfl ⟨b, rfl⟩
    · rename_i k ht; cases h; obtain ⟨n, rfl, _, hw⟩ := DataW.trod_int ht hx; exact plain rfl ⟨n, rfl, hw⟩
    · rename_i ht; cases h; obtain ⟨s, rfl, _, hs⟩ := DataW.trod_string ht hx; exact plain rfl ⟨s, rfl, hs⟩
    · rename_i e ht
      split at h
      · rename_i te hte
        split at h
        · rename_i hc
          cases h
          exact slice_cells ht hte hc.1 hc.2.1 hc.2.2 hx hl hg
        · cases h
      · cases h
    · rename_i fs ht
      split at h
      · rename_i ty' hty
        split at h
        · rename_i hsz
          cases h
          obtain ⟨xs, n, _, _, hln, hxl, hget⟩ := DataW.trod_struct ht hx
          have := hf fs.toList 0 ty cs n hty (by rw [hln, hsz, Nat.zero_add]) hl (fun i f hi => by
            have hi' : fs[i]? = some f := by simpa using hi
            have hlt : i < xs.length := by rw [hxl]; exact (Array.getElem?_eq_some_iff.1 hi').1
            exact ⟨xs[i], by rw [hget i f hi', List.getElem?_eq_getElem hlt]⟩) rows φ hg
          simpa using this
        · cases h
      · cases h
    · rename_i n e ht
      split at h
      · rename_i te hte
        split at h
        · rename_i hsz
          cases h
          obtain ⟨xs, m, _, _, hln, hxl, hget⟩ := DataW.trod_array ht hx
          exact ha te e m hte n cs (by rw [hln, hsz.2]) hl (fun i hi => ⟨xs[i], by rw [hsz.1, hget i hi, List.getElem?_eq_getElem]⟩) rows φ hg
        · cases h
      · cases h
    · cases h

/-! ### Values -/

def Ty.one : Ty → Bool
  | .unit => false
  | .pair _ _ => false
  | _ => true
/-- The value of these cells. -/
def mkV (t : Ty) (ac : List Value) : Value := if t.one then ac.headD undef else .agg ac.toArray

theorem leads_of_cell {P : Program} {r : Reach} {base : Nat} {u : TypeId} {v : Value} (h : Cell.okWide P w r base u v) : Leads w v := by
  intro a n q hv
  subst hv
  have h2 : Cell.ok P w r base u (.slice (some a) n q) := by
    unfold Cell.okWide at h
    split at h <;> simp_all
  unfold Cell.ok at h2
  generalize P.underlying u = o at h2
  cases o with
  | none => exact h2.elim
  | some d =>
    cases d with
    | slice e =>
      obtain ⟨_, _, _, hs, row, cells, hsh, _⟩ := h2
      refine ⟨hs, ?_⟩
      unfold World.shape? at hsh
      split at hsh
      · rename_i c el fr hc; exact ⟨c, el, fr, hc⟩
      · cases hsh
    | _ => exact h2.elim

theorem fieldsTy_one {rec : TypeId → Option Ty} {P : Program} : ∀ {off : Nat} {fs : List Field} {ty : Ty}, fieldsTy rec P off fs = some ty → ty.one = false
  | _, [], _, h => by cases h; rfl
  | off, f :: fs, ty, h => by
    simp only [fieldsTy] at h
    split at h
    · split at h
      · rw [Option.map_eq_some_iff] at h
        obtain ⟨r, _, rfl⟩ := h
        rfl
      · cases h
    · cases h

theorem rep_one {e : Ty} : ∀ {n : Nat}, (Ty.rep n e).one = false
  | 0 => rfl
  | _ + 1 => rfl

theorem one_of_ty {P : Program} {F : Nat} {ty : Ty} {t : TypeId} {v : Value} {r : Reach} {base : Nat} (hty : tyOf P F t = some ty) (hval : Value.okWide P w r base t v) : (ty.one = false ∧ ∃ cs, v = .agg cs ∧ Row.okWide P w r base t cs) ∨ (ty.one = true ∧ v.cells = #[v] ∧ Cell.okWide P w r base t v) := by
  cases F with
  | zero => cases hty
  | succ F =>
    unfold Value.okWide at hval
    simp only [tyOf] at hty
    split at hty
    · rename_i ht; cases hty; rw [ht] at hval; right
      refine ⟨rfl, ?_, hval⟩
      cases v <;> simp [Cell.okWide, Cell.ok, ht, Value.cells] at hval ⊢
    · rename_i ht; cases hty; rw [ht] at hval; right
      refine ⟨rfl, ?_, hval⟩
      cases v <;> simp [Cell.okWide, Cell.ok, ht, Value.cells] at hval ⊢
    · rename_i ht; cases hty; rw [ht] at hval; right
      refine ⟨rfl, ?_, hval⟩
      cases v <;> simp [Cell.okWide, Cell.ok, ht, Value.cells] at hval ⊢
    · rename_i ht
      rw [ht] at hval
      split at hty
      · split at hty
        · cases hty; right
          refine ⟨rfl, ?_, hval⟩
          cases v <;> simp [Cell.okWide, Cell.ok, ht, Value.cells] at hval ⊢
        · cases hty
      · cases hty
    · rename_i ht
      rw [ht] at hval
      obtain ⟨cs, rfl, _, hr⟩ := hval
      split at hty
      · rename_i ty' hty'
        split at hty
        · cases hty; exact .inl ⟨fieldsTy_one hty', cs, rfl, hr⟩
        · cases hty
      · cases hty
    · rename_i ht
      rw [ht] at hval
      obtain ⟨cs, rfl, _, hr⟩ := hval
      split at hty
      · split at hty
        · cases hty; exact .inl ⟨rep_one, cs, rfl, hr⟩
        · cases hty
      · cases hty
    · cases hty

theorem abs_arg {F : Nat} {ty : Ty} {t : TypeId} {v : Value} {d : DataW H} {ps : List MemPlace} {r : Reach} {base : Nat} (hty : tyOf E.P F t = some ty) (hval : Value.okWide E.P w r base t v) (h : DataW.Trod enc E.P w 0 (fun _ => true) true t v d ps)
    {rows : List (List Value)} {φ : NM} (hg : Good E w rows φ) : ∃ rows' φ' ac, More rows rows' ∧ Ext φ φ' ∧ Good E w rows' φ' ∧ RelV E.lab φ' (mkV ty ac) v ∧ Sh rows' ty ac := by
  obtain ⟨fuel, hx⟩ := h
  have hone := one_of_ty hty hval
  have hl : ∀ u ∈ v.cells.toList, Leads w u := by
    rcases hone with ⟨_, cs, rfl, ts, _, _, hr⟩ | ⟨_, hc, hv⟩
    · intro u hu
      obtain ⟨i, hi⟩ := List.mem_iff_getElem?.1 hu
      obtain ⟨u', _, hu'⟩ := hr i u (by simpa [Value.cells] using hi)
      exact leads_of_cell hu'
    · intro u hu
      rw [hc] at hu
      simp at hu
      subst hu
      exact leads_of_cell hv
  obtain ⟨rows', φ', ac, h1, h2, h3, h4, h5⟩ := abs_cells F ty t _ fuel _ hty hx hl rows φ hg
  refine ⟨rows', φ', ac, h1, h2, h3, ?_, h5⟩
  unfold mkV
  rcases hone with ⟨ho, cs, rfl, _⟩ | ⟨ho, hc, _⟩
  · rw [if_neg (by simp [ho])]
    exact RelL.agg (by simpa [Value.cells] using h4)
  · rw [if_pos ho]
    rw [hc] at h4
    cases ac with
    | nil => have := h4.1; simp at this
    | cons u us => exact h4.2 0 u v rfl rfl

/-! ### The law's call -/

theorem Good.start : Good E w [] fun _ => none := ⟨fun _ _ => rfl, fun i r h => by simp at h, fun r h => by cases h⟩

theorem Good.rel {rows : List (List Value)} {φ : NM} (h : Good E w rows φ) (lim : Nat) : Rel E lim φ (roHp rows) w := by
  refine ⟨fun x e hx => ?_, fun x e hx => ?_, fun x b e hb hx => ?_, fun x y b c ex ey _ hb _ _ _ hrw => ?_⟩
  · rcases Nat.lt_or_ge x rows.length with h' | h'
    · exact .inl h'
    · rw [h.dom x h'] at hx; cases hx
  · rcases Nat.lt_or_ge x rows.length with h' | h'
    · obtain ⟨e', he', hlt, _⟩ := h.row x rows[x] (List.getElem?_eq_getElem h')
      rw [hx] at he'; cases he'; exact hlt
    · rw [h.dom x h'] at hx; cases hx
  · rw [roHp_get, Option.map_eq_some_iff] at hb
    obtain ⟨r, hr, rfl⟩ := hb
    obtain ⟨e', he', _, hB⟩ := h.row x r hr
    rw [hx] at he'; cases he'; exact hB
  · rw [roHp_get, Option.map_eq_some_iff] at hb
    obtain ⟨r, hr, rfl⟩ := hb
    cases hrw

theorem law_calls {K : Nat → Option Spec} (hK : SpecsOk E K) {rows : List (List Value)} {φ : NM} {f : Nat} {f' : FuncId} {args args' : List Value} (hg : Good E w rows φ) (hlab : E.lab f' = f) (hfn : ∃ nt rs body, E.AP f = some (.fn nt rs body)) (hrel : RelL E.lab φ args args')
    (h : WF E.AP K rows.length f args (roHp rows) fun v _ => v = .bool true) : Calls E.P f' args'.toArray w fun e w' => e = .returned (.bool true) ∧ Go.RowKit.Below w.heap.size w w' := by
  obtain ⟨m, d, v, A', hr, rfl⟩ := h
  have hs := callA_sound hK hr hfn A'.n φ w f' args' (Nat.le_refl _) hlab hrel (hg.rel _)
  refine (hs.mono ?_).calls (fun k => ?_)
  · rintro e w' ⟨v', φ', rfl, hv, hP⟩
    cases hv
    refine ⟨rfl, hP.env.1, hP.env.2.2, hP.env.2.1, hP.size, fun b hb => hP.frame b hb fun x e hx _ => ?_⟩
    rcases Nat.lt_or_ge x rows.length with h' | h'
    · exact .inl h'
    · rw [hg.dom x h'] at hx; cases hx
  · intro d hd; cases hd

end
end Go.Ab
/- The seat's laws: from the abstract walk to the statement; what they share. -/
set_option maxRecDepth 100000
namespace Go.Ab.Wave
open Go Go.Ab Go.Proofs

theorem KL_ok : SpecsOk E KL := by
  intro h S hS
  unfold KL at hS
  split at hS
  · cases hS; exact ⟨isFn' 10 _ _ _ rfl, fun g args A v A' hr => memoSpec_sound (by intro M hM; simp only [List.mem_singleton] at hM; subst hM; exact mWorks_ok) hr⟩
  · cases hS; exact ⟨isFn' 12 _ _ _ rfl, S12_ok⟩
  · cases hS; exact ⟨isFn' 13 _ _ _ rfl, S13_ok13⟩
  · cases hS; exact ⟨isFn' 14 _ _ _ rfl, S14_ok⟩
  · cases hS; exact ⟨isFn' 15 _ _ _ rfl, S13_ok15⟩
  · cases hS; exact ⟨isFn' 37 _ _ _ rfl, S37_ok⟩
  · cases hS; exact ⟨isFn' 38 _ _ _ rfl, S38_ok38⟩
  · cases hS; exact ⟨isFn' 39 _ _ _ rfl, S39_ok⟩
  · cases hS; exact ⟨isFn' 40 _ _ _ rfl, S40_ok⟩
  · cases hS; exact ⟨isFn' 42 _ _ _ rfl, S42_ok42⟩
  · cases hS; exact ⟨isFn' 43 _ _ _ rfl, S42_ok43⟩
  · cases hS

def tI : Ty := .int .i64
def tSpan : Ty := .pair tI (.pair tI .unit)
def tModel : Ty := .pair tSpan (.pair tSpan (.pair tSpan .unit))
def tGrid : Ty := .pair tI (.pair tI (.pair tI (.pair (.slice tSpan) .unit)))
def tBound : Ty := .pair tSpan (.pair tSpan (.pair tSpan (.pair tSpan .unit)))
def tSource : Ty := .pair tI (.pair tI (.pair tI (.pair tSpan .unit)))

theorem sh_span {rows : List (List Value)} {cs : List Value} (h : Sh rows tSpan cs) : ∃ a b, cs = [.int .i64 a, .int .i64 b] := by
  obtain ⟨_, _, rfl, ⟨a, rfl, _⟩, ⟨_, _, rfl, ⟨b, rfl, _⟩, rfl⟩⟩ := h
  exact ⟨a, b, rfl⟩
theorem sh_model {rows : List (List Value)} {cs : List Value} (h : Sh rows tModel cs) : ∃ a b c d e f, mkV tModel cs = modelV a b c d e f := by
  obtain ⟨_, _, rfl, h1, ⟨_, _, rfl, h2, ⟨_, _, rfl, h3, rfl⟩⟩⟩ := h
  obtain ⟨a, b, rfl⟩ := sh_span h1
  obtain ⟨c, d, rfl⟩ := sh_span h2
  obtain ⟨e, f, rfl⟩ := sh_span h3
  exact ⟨a, b, c, d, e, f, rfl⟩
theorem sh_source {rows : List (List Value)} {cs : List Value} (h : Sh rows tSource cs) : ∃ a b c d e, mkV tSource cs = srcV a b c d e := by
  obtain ⟨_, _, rfl, ⟨a, rfl, _⟩, ⟨_, _, rfl, ⟨b, rfl, _⟩, ⟨_, _, rfl, ⟨c, rfl, _⟩, ⟨_, _, rfl, h3, rfl⟩⟩⟩⟩ := h
  obtain ⟨e, f, rfl⟩ := sh_span h3
  exact ⟨a, b, c, e, f, rfl⟩

theorem pairsOf_cells : ∀ l : List (Int × Int), pairsOf (cellsOf l) = some l
  | [] => rfl
  | p :: l => by
    have e : cellsOf (p :: l) = J p.1 :: J p.2 :: cellsOf l := rfl
    rw [e]
    simp [J, pairsOf, pairsOf_cells l]

theorem sh_grid {rows : List (List Value)} {cs : List Value} (h : Sh rows tGrid cs) : ∃ w hh s sl l, mkV tGrid cs = gridV w hh s sl ∧ groundOf (roHp rows) sl = some l := by
  obtain ⟨_, _, rfl, ⟨a, rfl, _⟩, ⟨_, _, rfl, ⟨b, rfl, _⟩, ⟨_, _, rfl, ⟨c, rfl, _⟩, ⟨_, _, rfl, h3, rfl⟩⟩⟩⟩ := h
  rcases h3 with rfl | ⟨x, n, q, row, rfl, hn, hrow, hlen, hs, f, rfl, hf⟩
  · exact ⟨a, b, c, .slice none 0 0, [], rfl, rfl⟩
  · obtain ⟨p, hp⟩ := Go.Deep.choose_lt (α := Int × Int) (p := fun i p => f i = [.int .i64 p.1, .int .i64 p.2]) fun i hi => by
      obtain ⟨a, b, h⟩ := sh_span (hf i hi).1
      exact ⟨(a, b), h⟩
    have e : (List.range n).flatMap f = cellsOf ((List.range n).map p) := by
      unfold cellsOf
      rw [List.flatMap_map]
      exact Go.Deep.flatMap_congr_range fun i hi => hp i hi
    refine ⟨a, b, c, .slice (some ⟨x, 0, some 2⟩) n q, (List.range n).map p, rfl, ?_⟩
    simp only [groundOf, roHp_get, hrow, Option.map_some, e, pairsOf_cells]
    rw [if_pos ⟨by simp, by have : maxLen < 9223372036854775808 := by decide
                            omega⟩]

theorem own : ownKnob Try.prog.godebug = none := by kernel_rfl
theorem laidOut : laidOutB Try.prog = true := by kernel_rfl

end Go.Ab.Wave
/- Slices of structs of ints among the arguments. -/
namespace Go.Ab
open Go

/-- A type whose cells are all ints. -/
def Ty.allI : Ty → Bool
  | .int .i64 => true
  | .unit => true
  | .pair a b => a.allI && b.allI
  | _ => false

theorem sh_ints {rows : List (List Value)} : ∀ {t : Ty} {cs : List Value}, t.allI = true → Sh rows t cs → ∃ zs : List Int, cs = ints zs ∧ ∀ z ∈ zs, -9223372036854775808 ≤ z ∧ z < 9223372036854775808
  | .int k, cs, h, ⟨n, hn, hw⟩ => by
    cases k <;> simp [Ty.allI] at h
    refine ⟨[n], hn, fun z hz => ?_⟩
    simp at hz
    subst hz
    simp [Lit.wf, IntKind.min, IntKind.max, IntKind.signed, IntKind.bits] at hw
    omega
  | .unit, cs, _, h => ⟨[], h, fun z hz => by cases hz⟩
  | .pair a b, cs, h, ⟨l, r, h1, h2, h3⟩ => by
    simp only [Ty.allI, Bool.and_eq_true] at h
    obtain ⟨za, ea, ba⟩ := sh_ints h.1 h2
    obtain ⟨zb, eb, bb⟩ := sh_ints h.2 h3
    refine ⟨za ++ zb, by rw [h1, ea, eb, ints_append], fun z hz => ?_⟩
    rcases List.mem_append.1 hz with h' | h'
    · exact ba z h'
    · exact bb z h'
  | .bool, _, h, _ => by simp [Ty.allI] at h
  | .str, _, h, _ => by simp [Ty.allI] at h
  | .slice _, _, h, _ => by simp [Ty.allI] at h

theorem ints_flatMap {f : Nat → List Int} : ∀ {n : Nat}, (List.range n).flatMap (fun i => ints (f i)) = ints ((List.range n).flatMap f) := by
  intro n
  simp only [ints, List.map_flatMap]

/-- A slice of structs of ints. -/
theorem sh_slice_ints {rows : List (List Value)} {e : Ty} {cs : List Value} (he : e.allI = true) (h : Sh rows (.slice e) cs) :
    ∃ (n : Nat) (zs : List Int) (sl : Value), cs = [sl] ∧ RdS (roHp rows) e.size n (ints zs) sl ∧ n ≤ maxLen ∧ ∀ z ∈ zs, -9223372036854775808 ≤ z ∧ z < 9223372036854775808 := by
  rcases h with rfl | ⟨x, n, q, row, rfl, hn, hrow, hlen, hs, f, rfl, hf⟩
  · exact ⟨0, [], _, rfl, ⟨by simp [ints], .inl ⟨rfl, rfl⟩⟩, Nat.zero_le _, fun z hz => by cases hz⟩
  · obtain ⟨p, hp⟩ := Go.Deep.choose_lt (α := List Int) (p := fun i p => f i = ints p ∧ ∀ z ∈ p, -9223372036854775808 ≤ z ∧ z < 9223372036854775808) fun i hi => sh_ints he (hf i hi).1
    have e1 : (List.range n).flatMap f = ints ((List.range n).flatMap p) := by
      rw [← ints_flatMap]
      exact Go.Deep.flatMap_congr_range fun i hi => (hp i hi).1
    refine ⟨n, (List.range n).flatMap p, _, rfl, ⟨by rw [← e1, hlen], .inr ⟨x, q, true, rfl, by rw [roHp_get, hrow, ← e1]; rfl⟩⟩, hn, fun z hz => ?_⟩
    obtain ⟨i, hi, hz⟩ := List.mem_flatMap.1 hz
    exact (hp i (by simpa using hi)).2 z hz

theorem RdS.more {rows rows' : List (List Value)} {k n : Nat} {cs : List Value} {sl : Value} (h : RdS (roHp rows) k n cs sl) (hm : More rows rows') : RdS (roHp rows') k n cs sl := by
  obtain ⟨h0, h | ⟨b, c, ro, h1, h2⟩⟩ := h
  · exact ⟨h0, .inl h⟩
  · refine ⟨h0, .inr ⟨b, c, ro, h1, ?_⟩⟩
    rw [roHp_get, Option.map_eq_some_iff] at h2
    obtain ⟨r, hr, e⟩ := h2
    rw [roHp_get, hm b r hr]
    exact congrArg some e

end Go.Ab
namespace Go.Ab.Wave
open Go Go.Ab

def body21 : ACode := (.seq
 (.ops [
⟨some 31, none, [], .bin .lss (.t 30) (.t 29)⟩])
 (.seq
 (.cond (.t 31)
 .skip
 (.exit 1))
 (.seq
 (.block 2
 (.seq
 (.ops [
⟨some 32, none, [], .move (.t 30)⟩,
⟨some 33, none, [], .idxS (.t 28) (.t 30) 8⟩,
⟨some 34, none, [], .load (.t 33) (some 8)⟩,
⟨some 11, none, [], .alloc [.int .i64 0, .int .i64 0, .int .i64 0, .int .i64 0, .int .i64 0, .int .i64 0, .int .i64 0, .int .i64 0]⟩,
⟨some 10, none, [], .move (.t 32)⟩,
⟨none, none, [], .store (.t 11) (.t 34) 8⟩])
 (.ops [
⟨some 35, none, [], .move (.t 9)⟩,
⟨some 36, none, [], .fieldAddr (.t 4) 1⟩,
⟨some 37, none, [], .load (.t 36) none⟩,
⟨some 38, none, [], .fieldAddr (.t 3) 3⟩,
⟨some 39, none, [], .load (.t 38) none⟩,
⟨some 40, none, [], .move (.t 10)⟩,
⟨some 41, none, [], .idxS (.t 39) (.t 40) 2⟩,
⟨some 42, none, [], .fieldAddr (.t 41) 0⟩,
⟨some 43, none, [], .load (.t 42) none⟩,
⟨some 44, none, [], .bin .leq (.t 37) (.t 43)⟩,
⟨some 45, none, [], .move (.t 44)⟩,
⟨some 46, (some (45, true)), [], .fieldAddr (.t 11) 2⟩,
⟨some 47, (some (45, true)), [], .fieldAddr (.t 46) 1⟩,
⟨some 48, (some (45, true)), [], .load (.t 47) none⟩,
⟨some 49, (some (45, true)), [], .bin .leq (.t 48) (.k (.int .i64 0))⟩,
⟨some 50, none, [], .pick (.t 45) (.t 49) (.k (.bool false))⟩,
⟨some 51, none, [], .slit 1 1 [.bool false] [(0, .t 50)]⟩,
⟨some 52, none, [], .append (.t 35) (.t 51) 1 1⟩,
⟨some 9, none, [], .move (.t 52)⟩])))
 (.ops [
⟨some 53, none, [], .bin .add (.t 30) (.k (.int .i64 1))⟩,
⟨some 30, none, [], .move (.t 53)⟩]))))

def dryB (hi : Int) (gs zs : List Int) (i : Nat) : Bool := decide (hi ≤ gi gs (i * 2)) && decide (gi zs (i * 8 + 3) ≤ 0)
def dryL (hi : Int) (gs zs : List Int) (n : Nat) : List Value := (List.range n).map fun i => .bool (dryB hi gs zs i)
theorem dryL_succ (hi : Int) (gs zs : List Int) (n : Nat) : dryL hi gs zs (n + 1) = dryL hi gs zs n ++ [.bool (dryB hi gs zs n)] := by simp [dryL, List.range_succ]

section
variable {A0 : Hp} {G S n g : Nat} {sl lv : Value} {w hh s lo shi : Int} {gs zs : List Int} {rd : Option Nat} {D : List Nat} {Q : Ex → St → Prop}

theorem loop21 (hG : A0.get G = some (.cells [.int .i64 w, .int .i64 hh, .int .i64 s, sl] false)) (hS : A0.get S = some (.cells [.int .i64 lo, .int .i64 shi] false)) (hsl : RdS A0 2 n (ints gs) sl) (hl : RdS A0 8 n (ints zs) lv) (hn : n < 1000000) (hg : g ≤ A0.n)
    (hQ : ∀ T' A' sv', A0.n ≤ A'.n → (∀ x, x < A0.n → A'.get x = A0.get x) → AccS A0.n A' 1 (dryL shi gs zs n) sv' → tget T' 9 = sv' → Q (.exit 1) ⟨T', D, A'⟩) :
    ∀ (k i : Nat) (T : List Value) (A : Hp) (sv : Value), i + k = n → A0.n ≤ A.n → (∀ x, x < A0.n → A.get x = A0.get x) → AccS A0.n A 1 (dryL shi gs zs i) sv → tget T 3 = .pointer (some ⟨G, 0, none⟩) → tget T 4 = .pointer (some ⟨S, 0, none⟩) →
      tget T 9 = sv → tget T 28 = lv → tget T 29 = .int .i64 n → tget T 30 = .int .i64 i → W AP KL g rd (.loop body21) ⟨T, D, A⟩ Q := by
  have hgl := hsl.1
  have hzl := hl.1
  rw [ints_length] at hgl hzl
  intro k
  induction k with
  | zero =>
    intro i T A sv hi hn' hold hacc h3 h4 h9 h28 h29 h30
    have : i = n := by omega
    subst this
    rw [W_loop]
    simp (disch := first | omega | (as_aux_lemma => simp only [Hp.n_push, Hp.n_set, List.length_cons, List.length_nil, ints_length, List.length_append]) | (as_aux_lemma => simp [isCell]) | (simp only [Hp.n_push, Hp.n_set, List.length_cons, List.length_nil, ints_length, List.length_append]; omega)) [get_push_eq, get_push_old, set_push_old, partA_all, takeMarks, resA, resAll, resOne, Value.cells, body21, h29, h30]
    exact hQ _ _ sv hn' hold hacc (by simp [h9])
  | succ k ih =>
    intro i T A sv hi hn' hold hacc h3 h4 h9 h28 h29 h30
    have hsl' := hsl.mono hold
    have hl' := hl.mono hold
    have hG' := (hold G (Hp.lt_of_get hG)).trans hG
    have hS' := (hold S (Hp.lt_of_get hS)).trans hS
    have hGn := Hp.lt_of_get hG
    have hSn := Hp.lt_of_get hS
    obtain ⟨x, xc, xr, rfl, hx⟩ := hsl'.at (i := i) (by omega)
    obtain ⟨y, yc, yr, rfl, hy⟩ := hl'.at (i := i) (by omega)
    have hxn := Hp.lt_of_get hx
    have hyn := Hp.lt_of_get hy
    rw [W_loop]
    have key : ∀ b : Bool, b = dryB shi gs zs i → ∃ sv' A', appendA g ((A.push (.cells [.int .i64 (gi zs (i * 8)), .int .i64 (gi zs (i * 8 + 1)), .int .i64 (gi zs (i * 8 + 2)), .int .i64 (gi zs (i * 8 + 3)), .int .i64 (gi zs (i * 8 + 4)), .int .i64 (gi zs (i * 8 + 5)), .int .i64 (gi zs (i * 8 + 6)), .int .i64 (gi zs (i * 8 + 7))] false)).push (.cells [.bool b] false)) 1 1 sv (.slice (some ⟨A.n + 1, 0, some 1⟩) 1 1) = some (sv', A') ∧ AccS A0.n A' 1 (dryL shi gs zs (i + 1)) sv' ∧
        (∀ x, x < A0.n → A'.get x = A0.get x) ∧ A0.n ≤ A'.n := fun b hb => by
      obtain ⟨sv', A', e, hacc', hold', hn''⟩ := (hacc.mono (A' := A.push (.cells [.int .i64 (gi zs (i * 8)), .int .i64 (gi zs (i * 8 + 1)), .int .i64 (gi zs (i * 8 + 2)), .int .i64 (gi zs (i * 8 + 3)), .int .i64 (gi zs (i * 8 + 4)), .int .i64 (gi zs (i * 8 + 5)), .int .i64 (gi zs (i * 8 + 6)), .int .i64 (gi zs (i * 8 + 7))] false)) (fun x hx => get_push_old hx)).add (g := g) (bytes := 1) (new := [.bool b]) (ro := false) (n := i) hg (by simp; omega) rfl (by decide) rfl (by simp [dryL]) (by unfold room; omega)
      simp only [Hp.n_push] at e hn''
      exact ⟨sv', A', e, by rw [dryL_succ, ← hb]; exact hacc', fun x hx => by rw [hold' x hx, get_push_old (by omega), hold x hx], by omega⟩
    by_cases h : shi ≤ gi gs (i * 2)
    · obtain ⟨sv', A', e, hacc', hold', hn''⟩ := key (decide (gi zs (i * 8 + 3) ≤ 0)) (by simp [dryB, h])
      simp (disch := first | omega | (as_aux_lemma => simp only [Hp.n_push, Hp.n_set, List.length_cons, List.length_nil, ints_length, List.length_append]) | (as_aux_lemma => simp [isCell]) | (simp only [Hp.n_push, Hp.n_set, List.length_cons, List.length_nil, ints_length, List.length_append]; omega)) [get_push_eq, get_push_old, set_push_old, partA_all, takeMarks, resA, resAll, resOne, Value.cells, body21, h3, h4, h9, h28, h29, h30, show ((i : Int) < n) by omega, show i < n by omega, idxSA_ok, hx, hy, hG', hS', ints_get, ints_8, storeB_cells, setRange_all, h, slitA, fillA, setRange, e]
      exact ih (i + 1) _ A' sv' (by omega) hn'' hold' hacc' (by simp [h3]) (by simp [h4]) (by simp) (by simp [h28]) (by simp [h29]) (by simp [wrId (n := (i : Int) + 1) (by omega) (by omega)])
    · obtain ⟨sv', A', e, hacc', hold', hn''⟩ := key false (by simp [dryB, h])
      simp (disch := first | omega | (as_aux_lemma => simp only [Hp.n_push, Hp.n_set, List.length_cons, List.length_nil, ints_length, List.length_append]) | (as_aux_lemma => simp [isCell]) | (simp only [Hp.n_push, Hp.n_set, List.length_cons, List.length_nil, ints_length, List.length_append]; omega)) [get_push_eq, get_push_old, set_push_old, partA_all, takeMarks, resA, resAll, resOne, Value.cells, body21, h3, h4, h9, h28, h29, h30, show ((i : Int) < n) by omega, show i < n by omega, idxSA_ok, hx, hy, hG', hS', ints_get, ints_8, storeB_cells, setRange_all, h, slitA, fillA, setRange, e]
      exact ih (i + 1) _ A' sv' (by omega) hn'' hold' hacc' (by simp [h3]) (by simp [h4]) (by simp) (by simp [h28]) (by simp [h29]) (by simp [wrId (n := (i : Int) + 1) (by omega) (by omega)])

end
end Go.Ab.Wave
