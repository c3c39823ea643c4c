/- Rows of small numbers among a law's arguments. -/
import Derived.Test.YtekljelnebadeaaGreatZ09
import Derived.DataShut
set_option linter.unusedSimpArgs false
set_option linter.unusedVariables false
set_option linter.unusedSectionVars false
namespace Go.Ab
section
variable {T : List Value} {A : Hp} {a b : Int} {v x y : Value} {n : Nat}
@[simp] theorem ev_t' : ev T (.t n) = tget T n := rfl
@[simp] theorem ev_k' : ev T (.k v) = v := rfl
@[simp] theorem putA_some' : putA (some n) T v = tset T n v := rfl
@[simp] theorem putA_none' : putA none T v = T := rfl
@[simp] theorem binA_add : binA .add (.int .i64 a) (.int .i64 b) = some (.int .i64 (wr .i64 (a + b))) := rfl
@[simp] theorem binA_sub : binA .sub (.int .i64 a) (.int .i64 b) = some (.int .i64 (wr .i64 (a - b))) := rfl
@[simp] theorem binA_mul : binA .mul (.int .i64 a) (.int .i64 b) = some (.int .i64 (wr .i64 (a * b))) := rfl
@[simp] theorem binA_eql : binA .eql (.int .i64 a) (.int .i64 b) = some (.bool (decide (a = b))) := rfl
@[simp] theorem binA_neq : binA .neq (.int .i64 a) (.int .i64 b) = some (.bool (!decide (a = b))) := rfl
@[simp] theorem binA_lss : binA .lss (.int .i64 a) (.int .i64 b) = some (.bool (decide (a < b))) := rfl
@[simp] theorem binA_leq : binA .leq (.int .i64 a) (.int .i64 b) = some (.bool (decide (a ≤ b))) := rfl
@[simp] theorem binA_gtr : binA .gtr (.int .i64 a) (.int .i64 b) = some (.bool (decide (b < a))) := rfl
@[simp] theorem binA_geq : binA .geq (.int .i64 a) (.int .i64 b) = some (.bool (decide (b ≤ a))) := rfl
@[simp] theorem binA_shl : binA .shl (.int .i64 a) (.int .i64 b) = shA true .i64 a b := rfl
@[simp] theorem binA_shr : binA .shr (.int .i64 a) (.int .i64 b) = shA false .i64 a b := rfl
@[simp] theorem pickA_true : pickA (.bool true) x y = some x := rfl
@[simp] theorem pickA_false : pickA (.bool false) x y = some y := rfl
@[simp] theorem negA_int : negA (.int .i64 a) = some (.int .i64 (wr .i64 (0 - a))) := rfl
@[simp] theorem notA_bool {c : Bool} : notA (.bool c) = some (.bool (!c)) := rfl
@[simp] theorem beqA_bool {c p q : Bool} : beqA c (.bool p) (.bool q) = some (.bool (if c then !(p == q) else p == q)) := rfl
@[simp] theorem extractA_tuple {l : List Value} : extractA n (.tuple ⟨l⟩) = l[n]? := by simp [extractA]
@[simp] theorem lenV_slice {p : _} {c : Nat} : lenV (.slice p n c) = some (.int .i64 n) := rfl
@[simp] theorem fieldAddrA_ptr {k o : Nat} : fieldAddrA n (.pointer (some ⟨k, o, none⟩)) = some (.pointer (some ⟨k, o + n, none⟩)) := rfl
@[simp] theorem fieldA_agg {l : List Value} {s : Option Nat} : fieldA n s (.agg ⟨l⟩) = partA l n s := rfl
@[simp] theorem nilCheckA_ptr {p : _} : nilCheckA (.pointer (some p)) = some (.pointer (some p)) := rfl
def mn2 (a b : Int) : Int := if b < a then b else a
def mx2 (a b : Int) : Int := if b > a then b else a
theorem mn2_eq : mn2 a b = min a b := by unfold mn2; split <;> omega
theorem mx2_eq : mx2 a b = max a b := by unfold mx2; split <;> omega
@[simp] theorem minA_two : minA [.int .i64 a, .int .i64 b] = some (.int .i64 (min a b)) := by rw [← mn2_eq]; simp [minA, foldInt, mn2]
@[simp] theorem maxA_two' : maxA [.int .i64 a, .int .i64 b] = some (.int .i64 (max a b)) := by rw [← mx2_eq]; simp [maxA, foldInt, mx2]
def loadB (b : Option ABlk) (o : Nat) (s : Option Nat) : Option Value :=
  match b with
  | some (.cells cs _) => partA cs o s
  | _ => none
@[simp] theorem loadA_ptr {k o : Nat} {s : Option Nat} : loadA A (.pointer (some ⟨k, o, none⟩)) s = loadB (A.get k) o s := by
  unfold loadA loadB
  rfl
@[simp] theorem loadB_cells {cs : List Value} {ro : Bool} {o : Nat} {s : Option Nat} : loadB (some (.cells cs ro)) o s = partA cs o s := rfl
def cellAt (cs : List Value) (o : Nat) : Option Value := cs[o]?
@[simp] theorem partA_none {cs : List Value} {o : Nat} : partA cs o none = cellAt cs o := rfl
@[simp] theorem cellAt_zero {cs : List Value} : cellAt (v :: cs) 0 = some v := rfl
@[simp] theorem cellAt_succ {cs : List Value} {o : Nat} : cellAt (v :: cs) (o + 1) = cellAt cs o := rfl
def storeB (b : Option ABlk) (g : Nat) (A : Hp) (x o : Nat) (vs : List Value) (size : Nat) : Option (Value × Hp) :=
  match b with
  | some (.cells cs false) => if vs.length = size ∧ g ≤ x ∧ o + vs.length ≤ cs.length ∧ vs.all isCell = true then some (undef, A.set x (some (.cells (setRange cs o vs) false))) else none
  | _ => none
@[simp] theorem storeA_ptr {g k o size : Nat} : storeV (storeA g A (.pointer (some ⟨k, o, none⟩)) v size) = storeB (A.get k) g A k o v.cells.toList size := by
  unfold storeA storeB writeA storeV
  simp only
  by_cases h1 : v.cells.toList.length = size
  · rw [if_pos h1]
    by_cases h2 : g ≤ k
    · rw [if_pos h2]
      split
      · rename_i cs hc
        simp only [hc, h1, h2, true_and]
        split <;> rfl
      · rename_i hc
        split
        · rename_i cs hc'; exact absurd hc' (hc cs)
        · rfl
    · rw [if_neg h2]
      split
      · simp [h2]
      · rfl
  · rw [if_neg h1]
    split
    · rw [if_neg (fun h => h1 h.1)]; rfl
    · rfl
@[simp] theorem zeros_one {z : List Value} : zeros 1 z = z := by
  unfold zeros
  rw [Nat.one_mul]
  apply List.ext_getElem?
  intro i
  by_cases h : i < z.length
  · simp [h, Nat.mod_eq_of_lt h]
  · simp [h]
def ints (l : List Int) : List Value := l.map (.int .i64)
@[simp] theorem ints_length (l : List Int) : (ints l).length = l.length := List.length_map ..
end
theorem AccS.someOf {A : Hp} {N k i n : Nat} {cs : List Value} {sv : Value} (h : AccS N A k cs sv) (hl : cs.length = n * k) (hi : i < n) (hk : 0 < k) : ∃ b, sv = .slice (some ⟨b, 0, some k⟩) n n ∧ A.get b = some (.cells cs false) := by
  rcases h with ⟨h1, h2⟩ | ⟨b, m, h1, h2, h3, h4, h5⟩
  · subst h2
    have := Nat.mul_pos (show 0 < n by omega) hk
    simp at hl; omega
  · have : m = n := Nat.eq_of_mul_eq_mul_right hk (h4.symm.trans hl)
    subst this
    exact ⟨b, h1, h2⟩
def RdS (A : Hp) (k n : Nat) (cs : List Value) (sv : Value) : Prop :=
  cs.length = n * k ∧ ((sv = .slice none 0 0 ∧ n = 0) ∨ ∃ b c ro, sv = .slice (some ⟨b, 0, some k⟩) n c ∧ A.get b = some (.cells cs ro))
theorem RdS.mono {A A' : Hp} {k n : Nat} {cs : List Value} {sv : Value} (h : RdS A k n cs sv) (hA : ∀ x, x < A.n → A'.get x = A.get x) : RdS A' k n cs sv := by
  obtain ⟨h0, h | ⟨b, c, ro, h1, h2⟩⟩ := h
  · exact ⟨h0, .inl h⟩
  · exact ⟨h0, .inr ⟨b, c, ro, h1, by rw [hA b (Hp.lt_of_get h2)]; exact h2⟩⟩
theorem RdS.push {A : Hp} {k n : Nat} {cs : List Value} {sv : Value} {x : ABlk} (h : RdS A k n cs sv) : RdS (A.push x) k n cs sv := h.mono fun x hx => by rw [Hp.get_push, if_neg (by omega)]
theorem RdS.len {A : Hp} {k n : Nat} {cs : List Value} {sv : Value} (h : RdS A k n cs sv) : lenV sv = some (.int .i64 n) := by
  obtain ⟨_, ⟨rfl, rfl⟩ | ⟨b, c, ro, rfl, _⟩⟩ := h <;> rfl
theorem RdS.at {A : Hp} {k n i : Nat} {cs : List Value} {sv : Value} (h : RdS A k n cs sv) (hi : i < n) : ∃ b c ro, sv = .slice (some ⟨b, 0, some k⟩) n c ∧ A.get b = some (.cells cs ro) := by
  obtain ⟨_, ⟨_, h0⟩ | h⟩ := h
  · omega
  · exact h
theorem AccS.rd {A : Hp} {N k n : Nat} {cs : List Value} {sv : Value} (h : AccS N A k cs sv) (hl : cs.length = n * k) (hk : 0 < k) : RdS A k n cs sv := by
  refine ⟨hl, ?_⟩
  rcases Nat.eq_zero_or_pos n with h0 | h0
  · subst h0
    rcases h with ⟨h1, _⟩ | ⟨b, m, h1, h2, h3, h4, h5⟩
    · exact .inl ⟨h1, rfl⟩
    · have := Nat.mul_pos h5 hk
      omega
  · obtain ⟨b, h1, h2⟩ := h.someOf hl h0 hk
    exact .inr ⟨b, n, false, h1, h2⟩
theorem AccS.add {N g : Nat} {A : Hp} {esz bytes n : Nat} {cs new : List Value} {ro : Bool} {sv : Value} (h : AccS N A esz cs sv) (hg : g ≤ N) (hN : N ≤ A.n) (hnew : new.length = esz) (hesz : 0 < esz) (hcell : new.all isCell = true) (hl : cs.length = n * esz)
    (hroom : (n + 1) * bytes ≤ room ∧ n + 1 ≤ room) : ∃ sv' A', appendA g (A.push (.cells new ro)) esz bytes sv (.slice (some ⟨A.n, 0, some esz⟩) 1 1) = some (sv', A') ∧ AccS N A' esz (cs ++ new) sv' ∧ (∀ z, z < N → A'.get z = A.get z) ∧ A.n ≤ A'.n := by
  obtain ⟨sv', A', h1, h2, h3, h4⟩ := append_acc (A := A.push (.cells new ro)) (y := A.n) (h.mono fun x hx => by rw [Hp.get_push, if_neg (by omega)]) hg (by simp; omega) (by rw [Hp.get_push, if_pos rfl]) hnew hesz hcell hl hroom
  exact ⟨sv', A', h1, h2, fun z hz => by rw [h3 z hz, Hp.get_push, if_neg (by omega)], by rw [h4]; simp; omega⟩
section
variable {A : Hp} {b c : ABlk} {x y : Nat}
@[simp] theorem set_push_new {b' : ABlk} : (A.push b).set A.n (some b') = A.push b' := by
  unfold Hp.push Hp.set; simp
end
end Go.Ab
namespace Go.Ab
open Go
end Go.Ab
namespace Go.Ab
open Go
def kints (k : IntKind) (l : List Int) : List Value := l.map (.int k)
@[simp] theorem kints_length (k : IntKind) (l : List Int) : (kints k l).length = l.length := List.length_map ..
end Go.Ab
