/- Rows of small numbers among a law's arguments. -/
import Derived.Test.YtekljelnebadeaaGreatZ10
import Derived.ProofKit
import Derived.OpenShut
import Derived.Below
import Derived.Deep.Slices
import Derived.DataShut
set_option linter.unusedSimpArgs false
set_option linter.unusedVariables false
set_option linter.unusedSectionVars false
namespace Go.Ab
theorem wrId {n : Int} (h0 : -9223372036854775808 ≤ n) (h1 : n < 9223372036854775808) : wr .i64 n = n := by rw [wr_eq]; exact wrap_i64 n h0 h1
section
variable {T : List Value} {A : Hp} {a b : Int} {v x y : Value} {n : Nat}
@[simp] theorem ev_t' : ev T (.t n) = tget T n := rfl
@[simp] theorem ev_k' : ev T (.k v) = v := rfl
@[simp] theorem putA_some' : putA (some n) T v = tset T n v := rfl
@[simp] theorem putA_none' : putA none T v = T := rfl
@[simp] theorem binA_add : binA .add (.int .i64 a) (.int .i64 b) = some (.int .i64 (wr .i64 (a + b))) := rfl
@[simp] theorem binA_sub : binA .sub (.int .i64 a) (.int .i64 b) = some (.int .i64 (wr .i64 (a - b))) := rfl
@[simp] theorem binA_mul : binA .mul (.int .i64 a) (.int .i64 b) = some (.int .i64 (wr .i64 (a * b))) := rfl
theorem binA_quo (h : b ≠ 0) : binA .quo (.int .i64 a) (.int .i64 b) = some (.int .i64 (wr .i64 (a.tdiv b))) := by simp [binA, intA, kEq, h]
theorem binA_rem (h : b ≠ 0) : binA .rem (.int .i64 a) (.int .i64 b) = some (.int .i64 (a.tmod b)) := by simp [binA, intA, kEq, h]
@[simp] theorem binA_eql : binA .eql (.int .i64 a) (.int .i64 b) = some (.bool (decide (a = b))) := rfl
@[simp] theorem binA_neq : binA .neq (.int .i64 a) (.int .i64 b) = some (.bool (!decide (a = b))) := rfl
@[simp] theorem binA_lss : binA .lss (.int .i64 a) (.int .i64 b) = some (.bool (decide (a < b))) := rfl
@[simp] theorem binA_leq : binA .leq (.int .i64 a) (.int .i64 b) = some (.bool (decide (a ≤ b))) := rfl
@[simp] theorem binA_gtr : binA .gtr (.int .i64 a) (.int .i64 b) = some (.bool (decide (b < a))) := rfl
@[simp] theorem binA_geq : binA .geq (.int .i64 a) (.int .i64 b) = some (.bool (decide (b ≤ a))) := rfl
@[simp] theorem binA_shl : binA .shl (.int .i64 a) (.int .i64 b) = shA true .i64 a b := rfl
@[simp] theorem binA_shr : binA .shr (.int .i64 a) (.int .i64 b) = shA false .i64 a b := rfl
@[simp] theorem pickA_true : pickA (.bool true) x y = some x := rfl
@[simp] theorem pickA_false : pickA (.bool false) x y = some y := rfl
@[simp] theorem negA_int : negA (.int .i64 a) = some (.int .i64 (wr .i64 (0 - a))) := rfl
@[simp] theorem notA_bool {c : Bool} : notA (.bool c) = some (.bool (!c)) := rfl
@[simp] theorem beqA_bool {c p q : Bool} : beqA c (.bool p) (.bool q) = some (.bool (if c then !(p == q) else p == q)) := rfl
@[simp] theorem extractA_tuple {l : List Value} : extractA n (.tuple ⟨l⟩) = l[n]? := by simp [extractA]
@[simp] theorem lenV_slice {p : _} {c : Nat} : lenV (.slice p n c) = some (.int .i64 n) := rfl
@[simp] theorem fieldAddrA_ptr {k o : Nat} : fieldAddrA n (.pointer (some ⟨k, o, none⟩)) = some (.pointer (some ⟨k, o + n, none⟩)) := rfl
@[simp] theorem fieldA_agg {l : List Value} {s : Option Nat} : fieldA n s (.agg ⟨l⟩) = partA l n s := rfl
@[simp] theorem nilCheckA_ptr {p : _} : nilCheckA (.pointer (some p)) = some (.pointer (some p)) := rfl
theorem idxSA_ok {esz k o c : Nat} {s : Nat} {i : Int} {kd : IntKind} (h0 : 0 ≤ i) (h1 : i < n) : idxSA esz (.slice (some ⟨k, o, some s⟩) n c) (.int kd i) = some (.pointer (some ⟨k, o + i.toNat * esz, none⟩)) := by simp [idxSA, h0, h1]
theorem idxAA_ok {esz k o : Nat} {i : Int} {kd : IntKind} (h0 : 0 ≤ i) (h1 : i < n) : idxAA n esz (.pointer (some ⟨k, o, none⟩)) (.int kd i) = some (.pointer (some ⟨k, o + i.toNat * esz, none⟩)) := by simp [idxAA, h0, h1]
def mn2 (a b : Int) : Int := if b < a then b else a
def mx2 (a b : Int) : Int := if b > a then b else a
theorem mn2_eq : mn2 a b = min a b := by unfold mn2; split <;> omega
theorem mx2_eq : mx2 a b = max a b := by unfold mx2; split <;> omega
@[simp] theorem minA_two : minA [.int .i64 a, .int .i64 b] = some (.int .i64 (min a b)) := by rw [← mn2_eq]; simp [minA, foldInt, mn2]
@[simp] theorem maxA_two' : maxA [.int .i64 a, .int .i64 b] = some (.int .i64 (max a b)) := by rw [← mx2_eq]; simp [maxA, foldInt, mx2]
theorem maxA_four {c d : Int} : maxA [.int .i64 a, .int .i64 b, .int .i64 c, .int .i64 d] = some (.int .i64 (max (max (max a b) c) d)) := by
  rw [← mx2_eq, ← mx2_eq, ← mx2_eq]; simp [maxA, foldInt, mx2]
def loadB (b : Option ABlk) (o : Nat) (s : Option Nat) : Option Value :=
  match b with
  | some (.cells cs _) => partA cs o s
  | _ => none
@[simp] theorem loadA_ptr {k o : Nat} {s : Option Nat} : loadA A (.pointer (some ⟨k, o, none⟩)) s = loadB (A.get k) o s := by
  unfold loadA loadB
  rfl
@[simp] theorem loadB_cells {cs : List Value} {ro : Bool} {o : Nat} {s : Option Nat} : loadB (some (.cells cs ro)) o s = partA cs o s := rfl
def cellAt (cs : List Value) (o : Nat) : Option Value := cs[o]?
@[simp] theorem partA_none {cs : List Value} {o : Nat} : partA cs o none = cellAt cs o := rfl
@[simp] theorem cellAt_zero {cs : List Value} : cellAt (v :: cs) 0 = some v := rfl
@[simp] theorem cellAt_succ {cs : List Value} {o : Nat} : cellAt (v :: cs) (o + 1) = cellAt cs o := rfl
theorem partA_all {cs : List Value} {s : Nat} (h : cs.length = s) : partA cs 0 (some s) = some (.agg ⟨cs⟩) := by subst h; simp [partA]
theorem partA_some {cs : List Value} {o s : Nat} (h : o + s ≤ cs.length) : partA cs o (some s) = some (.agg ⟨(cs.drop o).take s⟩) := by simp [partA, h]
theorem partA_cons {cs : List Value} {o s : Nat} (h : o + s ≤ (v :: cs).length) : partA (v :: cs) o (some s) = some (.agg ⟨((v :: cs).drop o).take s⟩) := partA_some h
def storeB (b : Option ABlk) (g : Nat) (A : Hp) (x o : Nat) (vs : List Value) (size : Nat) : Option (Value × Hp) :=
  match b with
  | some (.cells cs false) => if vs.length = size ∧ g ≤ x ∧ o + vs.length ≤ cs.length ∧ vs.all isCell = true then some (undef, A.set x (some (.cells (setRange cs o vs) false))) else none
  | _ => none
@[simp] theorem storeA_ptr {g k o size : Nat} : storeV (storeA g A (.pointer (some ⟨k, o, none⟩)) v size) = storeB (A.get k) g A k o v.cells.toList size := by
  unfold storeA storeB writeA storeV
  simp only
  by_cases h1 : v.cells.toList.length = size
  · rw [if_pos h1]
    by_cases h2 : g ≤ k
    · rw [if_pos h2]
      split
      · rename_i cs hc
        simp only [hc, h1, h2, true_and]
        split <;> rfl
      · rename_i hc
        split
        · rename_i cs hc'; exact absurd hc' (hc cs)
        · rfl
    · rw [if_neg h2]
      split
      · simp [h2]
      · rfl
  · rw [if_neg h1]
    split
    · rw [if_neg (fun h => h1 h.1)]; rfl
    · rfl
theorem storeB_cells {g k o size : Nat} {cs vs : List Value} (h1 : vs.length = size) (h2 : g ≤ k) (h3 : o + size ≤ cs.length) (h4 : vs.all isCell = true) :
    storeB (some (.cells cs false)) g A k o vs size = some (undef, A.set k (some (.cells (setRange cs o vs) false))) := by
  subst h1; simp only [storeB]; rw [if_pos ⟨trivial, h2, h3, h4⟩]
@[simp] theorem zeros_one {z : List Value} : zeros 1 z = z := by
  unfold zeros
  rw [Nat.one_mul]
  apply List.ext_getElem?
  intro i
  by_cases h : i < z.length
  · simp [h, Nat.mod_eq_of_lt h]
  · simp [h]
def ints (l : List Int) : List Value := l.map (.int .i64)
@[simp] theorem ints_length (l : List Int) : (ints l).length = l.length := List.length_map ..
def gi (l : List Int) (o : Nat) : Int := l.getD o 0
theorem gi_eq {l : List Int} {o : Nat} (h : o < l.length) : gi l o = l[o] := by simp [gi, h]
theorem ints_get' {l : List Int} {o : Nat} (h : o < l.length) : (ints l)[o]? = some (.int .i64 (gi l o)) := by simp [ints, gi, h]
theorem ints_get {l : List Int} {o : Nat} (h : o < l.length) : cellAt (ints l) o = some (.int .i64 (gi l o)) := ints_get' h
theorem ints_two {l : List Int} {o : Nat} (h : o + 2 ≤ l.length) : partA (ints l) o (some 2) = some (.agg ⟨[.int .i64 (gi l o), .int .i64 (gi l (o + 1))]⟩) := by
  have h0 : o < l.length := by omega
  have h1 : o + 1 < l.length := by omega
  rw [partA_some (by rw [ints_length]; exact h)]
  have e : (ints l).drop o = .int .i64 l[o] :: .int .i64 l[o + 1] :: (ints l).drop (o + 2) := by
    simp only [ints, ← List.map_drop]
    rw [List.drop_eq_getElem_cons h0, List.drop_eq_getElem_cons h1]
    rfl
  rw [e]
  simp [gi_eq h0, gi_eq h1]
def cellsFrom (l : List Int) (o : Nat) : Nat → List Value
  | 0 => []
  | s + 1 => cellsFrom l o s ++ [.int .i64 (gi l (o + s))]
theorem ints_part {l : List Int} {o : Nat} : ∀ {s : Nat}, o + s ≤ l.length → partA (ints l) o (some s) = some (.agg ⟨cellsFrom l o s⟩) := by
  intro s h
  rw [partA_some (by rw [ints_length]; exact h)]
  have e : ∀ s, o + s ≤ l.length → ((ints l).drop o).take s = cellsFrom l o s := by
    intro s
    induction s with
    | zero => intro _; rfl
    | succ s ih =>
      intro h
      have hs : o + s < l.length := by omega
      rw [List.take_add_one, ih (by omega), cellsFrom, List.getElem?_drop, ints_get' hs]
      rfl
  rw [e s h]
theorem ints_3 {l : List Int} {o : Nat} (h : o + 3 ≤ l.length) : partA (ints l) o (some 3) = some (.agg ⟨[.int .i64 (gi l o), .int .i64 (gi l (o + 1)), .int .i64 (gi l (o + 2))]⟩) := by
  rw [ints_part h]; rfl
theorem ints_9 {l : List Int} {o : Nat} (h : o + 9 ≤ l.length) : partA (ints l) o (some 9) = some (.agg ⟨[.int .i64 (gi l o), .int .i64 (gi l (o + 1)), .int .i64 (gi l (o + 2)), .int .i64 (gi l (o + 3)), .int .i64 (gi l (o + 4)), .int .i64 (gi l (o + 5)), .int .i64 (gi l (o + 6)), .int .i64 (gi l (o + 7)), .int .i64 (gi l (o + 8))]⟩) := by
  rw [ints_part h]; rfl
theorem eqv2 {c : Bool} {a' b' : Int} : eqvA c [0, 0] (.agg ⟨[.int .i64 a, .int .i64 b]⟩) (.agg ⟨[.int .i64 a', .int .i64 b']⟩) = some (.bool (if c then !(decide (a = a') && decide (b = b')) else decide (a = a') && decide (b = b'))) := by
  cases c <;> simp [eqvA, eqCells, cellEq, kEq] <;> rfl
end
theorem AccS.someOf {A : Hp} {N k i n : Nat} {cs : List Value} {sv : Value} (h : AccS N A k cs sv) (hl : cs.length = n * k) (hi : i < n) (hk : 0 < k) : ∃ b, sv = .slice (some ⟨b, 0, some k⟩) n n ∧ A.get b = some (.cells cs false) := by
  rcases h with ⟨h1, h2⟩ | ⟨b, m, h1, h2, h3, h4, h5⟩
  · subst h2
    have := Nat.mul_pos (show 0 < n by omega) hk
    simp at hl; omega
  · have : m = n := Nat.eq_of_mul_eq_mul_right hk (h4.symm.trans hl)
    subst this
    exact ⟨b, h1, h2⟩
theorem AccS.isSlice {A : Hp} {N k : Nat} {cs : List Value} {sv : Value} (h : AccS N A k cs sv) : ∃ p n c, sv = .slice p n c := by
  rcases h with ⟨rfl, _⟩ | ⟨b, n, rfl, _⟩
  · exact ⟨_, _, _, rfl⟩
  · exact ⟨_, _, _, rfl⟩
def RdS (A : Hp) (k n : Nat) (cs : List Value) (sv : Value) : Prop :=
  cs.length = n * k ∧ ((sv = .slice none 0 0 ∧ n = 0) ∨ ∃ b c ro, sv = .slice (some ⟨b, 0, some k⟩) n c ∧ A.get b = some (.cells cs ro))
theorem RdS.mono {A A' : Hp} {k n : Nat} {cs : List Value} {sv : Value} (h : RdS A k n cs sv) (hA : ∀ x, x < A.n → A'.get x = A.get x) : RdS A' k n cs sv := by
  obtain ⟨h0, h | ⟨b, c, ro, h1, h2⟩⟩ := h
  · exact ⟨h0, .inl h⟩
  · exact ⟨h0, .inr ⟨b, c, ro, h1, by rw [hA b (Hp.lt_of_get h2)]; exact h2⟩⟩
theorem RdS.push {A : Hp} {k n : Nat} {cs : List Value} {sv : Value} {x : ABlk} (h : RdS A k n cs sv) : RdS (A.push x) k n cs sv := h.mono fun x hx => by rw [Hp.get_push, if_neg (by omega)]
theorem RdS.len {A : Hp} {k n : Nat} {cs : List Value} {sv : Value} (h : RdS A k n cs sv) : lenV sv = some (.int .i64 n) := by
  obtain ⟨_, ⟨rfl, rfl⟩ | ⟨b, c, ro, rfl, _⟩⟩ := h <;> rfl
theorem RdS.at {A : Hp} {k n i : Nat} {cs : List Value} {sv : Value} (h : RdS A k n cs sv) (hi : i < n) : ∃ b c ro, sv = .slice (some ⟨b, 0, some k⟩) n c ∧ A.get b = some (.cells cs ro) := by
  obtain ⟨_, ⟨_, h0⟩ | h⟩ := h
  · omega
  · exact h
theorem AccS.rd {A : Hp} {N k n : Nat} {cs : List Value} {sv : Value} (h : AccS N A k cs sv) (hl : cs.length = n * k) (hk : 0 < k) : RdS A k n cs sv := by
  refine ⟨hl, ?_⟩
  rcases Nat.eq_zero_or_pos n with h0 | h0
  · subst h0
    rcases h with ⟨h1, _⟩ | ⟨b, m, h1, h2, h3, h4, h5⟩
    · exact .inl ⟨h1, rfl⟩
    · have := Nat.mul_pos h5 hk
      omega
  · obtain ⟨b, h1, h2⟩ := h.someOf hl h0 hk
    exact .inr ⟨b, n, false, h1, h2⟩
theorem AccS.add {N g : Nat} {A : Hp} {esz bytes n : Nat} {cs new : List Value} {ro : Bool} {sv : Value} (h : AccS N A esz cs sv) (hg : g ≤ N) (hN : N ≤ A.n) (hnew : new.length = esz) (hesz : 0 < esz) (hcell : new.all isCell = true) (hl : cs.length = n * esz)
    (hroom : (n + 1) * bytes ≤ room ∧ n + 1 ≤ room) : ∃ sv' A', appendA g (A.push (.cells new ro)) esz bytes sv (.slice (some ⟨A.n, 0, some esz⟩) 1 1) = some (sv', A') ∧ AccS N A' esz (cs ++ new) sv' ∧ (∀ z, z < N → A'.get z = A.get z) ∧ A.n ≤ A'.n := by
  obtain ⟨sv', A', h1, h2, h3, h4⟩ := append_acc (A := A.push (.cells new ro)) (y := A.n) (h.mono fun x hx => by rw [Hp.get_push, if_neg (by omega)]) hg (by simp; omega) (by rw [Hp.get_push, if_pos rfl]) hnew hesz hcell hl hroom
  exact ⟨sv', A', h1, h2, fun z hz => by rw [h3 z hz, Hp.get_push, if_neg (by omega)], by rw [h4]; simp; omega⟩
section
variable {A : Hp} {b c : ABlk} {x y : Nat}
theorem get_push_eq (h : x ≤ A.n ∧ A.n ≤ x) : (A.push b).get x = some b := by rw [show x = A.n by omega]; exact get_push_new
@[simp] theorem set_push_new {b' : ABlk} : (A.push b).set A.n (some b') = A.push b' := by
  unfold Hp.push Hp.set; simp
theorem set_push_old {b' : Option ABlk} (h : x < A.n) : (A.push b).set x b' = (A.set x b').push b := by
  unfold Hp.push Hp.set
  simp only [Nat.add_sub_cancel]
  rw [show A.n - x = (A.n - 1 - x) + 1 by omega, List.set_cons_succ]
end
theorem hDs : (∀ (A : Hp) (b : ABlk), (A.push b).n = A.n + 1) ∧ (∀ (A : Hp) (x : Nat) (b : Option ABlk), (A.set x b).n = A.n) ∧ (∀ (a : Value) (l : List Value), (a :: l).length = l.length + 1) ∧ (([] : List Value).length = 0) ∧ (∀ l : List Int, (ints l).length = l.length) ∧ (∀ (l m : List Value), (l ++ m).length = l.length + m.length) ∧ (∀ (a : Int) (l : List Int), (a :: l).length = l.length + 1) ∧ (([] : List Int).length = 0) ∧ (∀ (l m : List Int), (l ++ m).length = l.length + m.length) := by
  refine ⟨fun _ _ => rfl, fun _ _ _ => rfl, fun _ _ => rfl, rfl, ints_length, fun _ _ => List.length_append, fun _ _ => rfl, rfl, fun _ _ => List.length_append⟩
theorem hRs : (∀ {A : Hp} {b : ABlk} {x : Nat}, (x ≤ A.n ∧ A.n ≤ x) → (A.push b).get x = some b) ∧ (∀ {A : Hp} {b : ABlk} {x : Nat}, x < A.n → (A.push b).get x = A.get x) ∧ (∀ {A : Hp} {b : ABlk} {x : Nat} {b' : Option ABlk}, x < A.n → (A.push b).set x b' = (A.set x b').push b) ∧
    (∀ {cs : List Value} {s : Nat}, cs.length = s → partA cs 0 (some s) = some (.agg ⟨cs⟩)) ∧ (∀ {v : Value} {cs : List Value} {o s : Nat}, o + s ≤ (v :: cs).length → partA (v :: cs) o (some s) = some (.agg ⟨((v :: cs).drop o).take s⟩)) :=
  ⟨get_push_eq, get_push_old, set_push_old, partA_all, partA_cons⟩
end Go.Ab
namespace Go.Ab
abbrev m64 : Nat := 18446744073709551616
def u64 (n : Nat) : Value := .int .u64 (n : Int)
def uA (a b : Nat) : Nat := (a + b) % m64
def uM (a b : Nat) : Nat := (a * b) % m64
def uS (a b : Nat) : Nat := (((a : Int) - (b : Int)) % 18446744073709551616).toNat
def uD (a b : Nat) : Nat := (a / b) % m64
def uN (a b : Nat) : Nat := (a % m64) &&& (b % m64)
def uO (a b : Nat) : Nat := (a % m64) ||| (b % m64)
def uR (a n : Nat) : Nat := a / 2 ^ (Min.min n 64)
def uL (a n : Nat) : Nat := (a * 2 ^ (Min.min n 64)) % m64
def uI (a : Nat) : Int := wr .i64 (a : Int)
def iU (n : Int) : Nat := (n % 18446744073709551616).toNat
@[simp] theorem isCell_u64 {n : Nat} : isCell (u64 n) = true := rfl
@[simp] theorem cells_u64 {n : Nat} : (u64 n).cells = ⟨[u64 n]⟩ := rfl
theorem wrap_u64 (n : Int) : IntKind.u64.wrap n = n % 18446744073709551616 := by
  have e1 : (2 ^ IntKind.u64.bits : Int) = 18446744073709551616 := by decide
  have e3 : IntKind.u64.signed = false := rfl
  unfold IntKind.wrap
  simp only [e1, e3, Bool.false_and]
  simp
theorem wrap_nat (n : Nat) : IntKind.u64.wrap (n : Int) = ((n % m64 : Nat) : Int) := by
  rw [wrap_u64, Int.natCast_emod]; rfl
section
variable {a b : Nat}
theorem u64_add : binA .add (u64 a) (u64 b) = some (u64 (uA a b)) := by
  have : binA .add (u64 a) (u64 b) = some (.int .u64 (wr .u64 ((a : Int) + (b : Int)))) := rfl
  rw [this, wr_eq, show ((a : Int) + (b : Int)) = ((a + b : Nat) : Int) by omega, wrap_nat]; rfl
theorem u64_mul : binA .mul (u64 a) (u64 b) = some (u64 (uM a b)) := by
  have : binA .mul (u64 a) (u64 b) = some (.int .u64 (wr .u64 ((a : Int) * (b : Int)))) := rfl
  rw [this, wr_eq, show ((a : Int) * (b : Int)) = ((a * b : Nat) : Int) by simp, wrap_nat]; rfl
theorem u64_sub : binA .sub (u64 a) (u64 b) = some (u64 (uS a b)) := by
  have : binA .sub (u64 a) (u64 b) = some (.int .u64 (wr .u64 ((a : Int) - (b : Int)))) := rfl
  rw [this, wr_eq, wrap_u64, u64, uS]
  congr 2
  omega
theorem u64_quo (h : b ≠ 0) : binA .quo (u64 a) (u64 b) = some (u64 (uD a b)) := by
  have : binA .quo (u64 a) (u64 b) = if (b : Int) = 0 then none else some (.int .u64 (wr .u64 ((a : Int).tdiv (b : Int)))) := rfl
  rw [this, if_neg (by omega), Int.tdiv_eq_ediv_of_nonneg (by omega), show ((a : Int) / (b : Int)) = ((a / b : Nat) : Int) by simp, wr_eq, wrap_nat]; rfl
theorem bits_nat (a : Nat) : (BitVec.ofInt IntKind.u64.bits (a : Int)).toNat = a % m64 := by
  rw [BitVec.ofInt_natCast, BitVec.toNat_ofNat]
  rfl
theorem m64_pow : m64 = 2 ^ 64 := by decide
theorem u64_and : binA .and (u64 a) (u64 b) = some (u64 (uN a b)) := by
  have : binA .and (u64 a) (u64 b) = some (.int .u64 (IntKind.u64.wrap (BitVec.ofInt IntKind.u64.bits (a : Int) &&& BitVec.ofInt IntKind.u64.bits (b : Int)).toNat)) := rfl
  rw [this, BitVec.toNat_and, bits_nat, bits_nat, wrap_nat]
  have h : (a % m64 &&& b % m64) < m64 := Nat.lt_of_le_of_lt Nat.and_le_left (Nat.mod_lt _ (by decide))
  rw [Nat.mod_eq_of_lt h]; rfl
theorem u64_or : binA .or (u64 a) (u64 b) = some (u64 (uO a b)) := by
  have : binA .or (u64 a) (u64 b) = some (.int .u64 (IntKind.u64.wrap (BitVec.ofInt IntKind.u64.bits (a : Int) ||| BitVec.ofInt IntKind.u64.bits (b : Int)).toNat)) := rfl
  rw [this, BitVec.toNat_or, bits_nat, bits_nat, wrap_nat]
  have h : (a % m64 ||| b % m64) < m64 := by
    rw [m64_pow]
    exact Nat.or_lt_two_pow (Nat.mod_lt _ (by decide)) (Nat.mod_lt _ (by decide))
  rw [Nat.mod_eq_of_lt h]; rfl
theorem u64_shr : binA .shr (u64 a) (u64 b) = some (u64 (uR a b)) := by
  have : binA .shr (u64 a) (u64 b) = if (b : Int) < 0 then none else some (.int .u64 ((a : Int).fdiv (2 ^ (Min.min (b : Int).toNat IntKind.u64.bits)))) := rfl
  rw [this, if_neg (by omega), Int.toNat_natCast, show IntKind.u64.bits = 64 from rfl, Int.fdiv_eq_ediv_of_nonneg _ (by have := Int.pow_pos (n := 2) (m := Min.min b 64) (by decide); omega)]
  have : ((a : Int) / 2 ^ (Min.min b 64)) = ((a / 2 ^ (Min.min b 64) : Nat) : Int) := by simp
  rw [this]; rfl
theorem u64_shl : binA .shl (u64 a) (u64 b) = some (u64 (uL a b)) := by
  have : binA .shl (u64 a) (u64 b) = if (b : Int) < 0 then none else some (.int .u64 (IntKind.u64.wrap ((a : Int) * 2 ^ (Min.min (b : Int).toNat IntKind.u64.bits)))) := rfl
  rw [this, if_neg (by omega), Int.toNat_natCast, show IntKind.u64.bits = 64 from rfl, show (a : Int) * 2 ^ (Min.min b 64) = ((a * 2 ^ (Min.min b 64) : Nat) : Int) by simp, wrap_nat]; rfl
theorem u64_int : toIntA .i64 (u64 a) = some (.int .i64 (uI a)) := rfl
theorem int_u64 {n : Int} : toIntA .u64 (.int .i64 n) = some (u64 (iU n)) := by
  have : toIntA .u64 (.int .i64 n) = some (.int .u64 (wr .u64 n)) := rfl
  rw [this, wr_eq, wrap_u64, u64, iU]
  congr 2
  omega
theorem u64_eql : binA .eql (u64 a) (u64 b) = some (.bool (decide (a = b))) := by
  have : binA .eql (u64 a) (u64 b) = some (.bool ((a : Int) == (b : Int))) := rfl
  rw [this]
  congr 2
  rw [Bool.eq_iff_iff, beq_iff_eq, decide_eq_true_iff]
  omega
theorem u64_gtr : binA .gtr (u64 a) (u64 b) = some (.bool (decide (b < a))) := by
  have : binA .gtr (u64 a) (u64 b) = some (.bool (decide ((a : Int) > (b : Int)))) := rfl
  rw [this]
  congr 2
  rw [Bool.eq_iff_iff, decide_eq_true_iff, decide_eq_true_iff]
  omega
theorem u64_geq : binA .geq (u64 a) (u64 b) = some (.bool (decide (b ≤ a))) := by
  have : binA .geq (u64 a) (u64 b) = some (.bool (decide ((a : Int) ≥ (b : Int)))) := rfl
  rw [this]
  congr 2
  rw [Bool.eq_iff_iff, decide_eq_true_iff, decide_eq_true_iff]
  omega
theorem u64_leq : binA .leq (u64 a) (u64 b) = some (.bool (decide (a ≤ b))) := by
  have : binA .leq (u64 a) (u64 b) = some (.bool (decide ((a : Int) ≤ (b : Int)))) := rfl
  rw [this]
  congr 2
  rw [Bool.eq_iff_iff, decide_eq_true_iff, decide_eq_true_iff]
  omega
end
end Go.Ab
namespace Go.Ab
section
variable {AP : Nat → Option AFunc} {K : Nat → Option Spec} {g : Nat} {T : List Value} {D : List Nat} {A : Hp} {Q : Ex → St → Prop} {V : Value → Hp → Prop}
def Keep (P : Nat → Prop) (A A' : Hp) : Prop := A.n ≤ A'.n ∧ ∀ x, x < A.n → ¬ P x → A'.get x = A.get x
theorem Keep.refl (P : Nat → Prop) (A : Hp) : Keep P A A := ⟨Nat.le_refl _, fun _ _ _ => rfl⟩
theorem Keep.trans {P : Nat → Prop} {A B C : Hp} (h : Keep P A B) (h' : Keep P B C) : Keep P A C := ⟨Nat.le_trans h.1 h'.1, fun x hx hp => by rw [h'.2 x (Nat.lt_of_lt_of_le hx h.1) hp, h.2 x hx hp]⟩
theorem Keep.push (P : Nat → Prop) (A : Hp) (b : ABlk) : Keep P A (A.push b) := ⟨Nat.le_succ _, fun x hx _ => get_push_old hx⟩
theorem Keep.mono {P P' : Nat → Prop} {A B : Hp} (h : Keep P A B) (hp : ∀ x, P x → P' x) : Keep P' A B := ⟨h.1, fun x hx hn => h.2 x hx fun hP => hn (hp x hP)⟩
def Ext' (A A' : Hp) : Prop := A.n ≤ A'.n ∧ ∀ x, x < A.n → A'.get x = A.get x
theorem Ext'.refl (A : Hp) : Ext' A A := ⟨Nat.le_refl _, fun _ _ => rfl⟩
theorem Ext'.trans {A B C : Hp} (h : Ext' A B) (h' : Ext' B C) : Ext' A C := ⟨Nat.le_trans h.1 h'.1, fun x hx => by rw [h'.2 x (Nat.lt_of_lt_of_le hx h.1), h.2 x hx]⟩
theorem Ext'.push (A : Hp) (b : ABlk) : Ext' A (A.push b) := ⟨Nat.le_succ _, fun x hx => get_push_old hx⟩
theorem Ext'.get {A A' : Hp} (h : Ext' A A') {x : Nat} {b : ABlk} (hx : A.get x = some b) : A'.get x = some b := by rw [h.2 x (Hp.lt_of_get hx)]; exact hx
theorem Ext'.keep {A A' : Hp} (h : Ext' A A') (P : Nat → Prop) : Keep P A A' := ⟨h.1, fun x hx _ => h.2 x hx⟩
end
end Go.Ab
namespace Go.Ab
theorem AccS.cases {N k : Nat} {A : Hp} {cs : List Value} {sv : Value} (hk : 0 < k) (h : AccS N A k cs sv) : (cs = [] ∧ sv = .slice none 0 0) ∨ ∃ b, cs ≠ [] ∧ sv = .slice (some ⟨b, 0, some k⟩) (cs.length / k) (cs.length / k) ∧ A.get b = some (.cells cs false) ∧ N ≤ b := by
  rcases h with ⟨h1, h2⟩ | ⟨b, n, h1, h2, h3, h4, h5⟩
  · exact .inl ⟨h2, h1⟩
  · refine .inr ⟨b, ?_, ?_, h2, h3⟩
    · intro h; rw [h] at h4
      have := Nat.mul_pos h5 hk
      simp at h4; omega
    · rw [h4, Nat.mul_div_cancel _ hk]; exact h1
section
variable {E : Env} {K : Nat → Option Spec}
end
end Go.Ab
set_option maxRecDepth 100000
namespace Go.Ab.Gauge
open Go Go.Ab
theorem mem_one {M : Memo} {f : Nat} (h : M.Ok E f) : ∀ M' ∈ [M], M'.Ok E f := fun M' hM => by simp only [List.mem_singleton] at hM; subst hM; exact h
def K7 : Nat → Option Spec := tableK [(402, [m_site1]), (403, [m_judge1]), (428, [m_prove1])]
theorem K7_ok : SpecsOk E K7 := tableK_ok (by
  intro p hp
  simp only [List.mem_cons, List.not_mem_nil, or_false] at hp
  rcases hp with rfl | rfl | rfl
  · exact ⟨isFn 402 (by kernel_rfl), mem_one m_site1_ok⟩
  · exact ⟨isFn 403 (by kernel_rfl), mem_one m_judge1_ok⟩
  · exact ⟨isFn 428 (by kernel_rfl), mem_one m_prove1_ok⟩)
def mWorks : Memo := ⟨[], [], .bool true, none⟩
theorem mWorks_run : mWorks.check E.AP K7 400 60 401 = true := by kernel_rfl
theorem mWorks_ok : mWorks.Ok E 401 := Memo.ok_of_check K7_ok (isFn 401 (by kernel_rfl)) (by kernel_rfl) mWorks_run
def mLz : Memo := ⟨[], [.int .u64 1800], .int .i64 53, none⟩
theorem mLz_run : mLz.check E.AP (fun _ => none) 60 30 543 = true := by kernel_rfl
theorem none_ok : SpecsOk E fun _ => none := fun _ _ h => by cases h
theorem mLz_ok : mLz.Ok E 543 := Memo.ok_of_check none_ok (isFn 543 (by kernel_rfl)) (by kernel_rfl) mLz_run
def KL : Nat → Option Spec := tableK [(401, [mWorks]), (543, [mLz])]
theorem KL_ok : SpecsOk E KL := tableK_ok (by
  intro p hp
  simp only [List.mem_cons, List.not_mem_nil, or_false] at hp
  rcases hp with rfl | rfl
  · exact ⟨isFn 401 (by kernel_rfl), mem_one mWorks_ok⟩
  · exact ⟨isFn 543 (by kernel_rfl), mem_one mLz_ok⟩)
section
variable {g : Nat} {A : Hp} {V : Value → Hp → Prop}
@[simp] theorem w401 : WF AP KL g 401 [] A V ↔ V (.bool true) A := by
  rw [WF_spec (show KL 401 = some (memoSpec [mWorks]) from rfl)]
  rfl
theorem w543 : WF AP KL g 543 [u64 1800] A V ↔ V (.int .i64 53) A := by
  rw [WF_spec (show KL 543 = some (memoSpec [mLz]) from rfl)]
  rfl
end
end Go.Ab.Gauge
namespace Go.Ab
open Go
inductive Ty where
  | int (k : IntKind)
  | bool
  | str
  | unit
  | pair (a b : Ty)
  | slice (e : Ty)
def Ty.size : Ty → Nat
  | .unit => 0
  | .pair a b => a.size + b.size
  | _ => 1
def Ty.plain : Ty → Bool
  | .slice _ => false
  | .pair a b => a.plain && b.plain
  | _ => true
def Ty.rep : Nat → Ty → Ty
  | 0, _ => .unit
  | n + 1, e => .pair e (rep n e)
def fieldsTy (rec : TypeId → Option Ty) (P : Program) : Nat → List Field → Option Ty
  | _, [] => some .unit
  | off, f :: fs => match rec f.type with
    | some tf => if f.offset = off ∧ tf.size = P.cellsOf f.type then (fieldsTy rec P (off + tf.size) fs).map fun r => .pair tf r else none
    | none => none
def tyOf (P : Program) : Nat → TypeId → Option Ty
  | 0, _ => none
  | fuel + 1, t => match P.underlying t with
    | some .bool => some .bool
    | some (.int k) => some (.int k)
    | some .string => some .str
    | some (.slice e) => match tyOf P fuel e with
      | some te => if te.size = P.cellsOf e ∧ 0 < te.size then some (.slice te) else none
      | none => none
    | some (.struct fs) => match fieldsTy (tyOf P fuel) P 0 fs.toList with
      | some ty => if ty.size = P.cellsOf t then some ty else none
      | none => none
    | some (.array n e) => match tyOf P fuel e with
      | some te => if te.size = P.cellsOf e ∧ n * te.size = P.cellsOf t then some (.rep n te) else none
      | none => none
    | _ => none
def Sh (rows : List (List Value)) : Ty → List Value → Prop
  | .int k, cs => ∃ n, cs = [.int k n] ∧ (Lit.int k n).wf = true
  | .bool, cs => ∃ b, cs = [.bool b]
  | .str, cs => ∃ s : ByteArray, cs = [.string s] ∧ s.size ≤ maxLen
  | .unit, cs => cs = []
  | .pair a b, cs => ∃ l r, cs = l ++ r ∧ Sh rows a l ∧ Sh rows b r
  | .slice e, cs => cs = [.slice none 0 0] ∨ ∃ x n c row, cs = [.slice (some ⟨x, 0, some e.size⟩) n c] ∧ n ≤ maxLen ∧ rows[x]? = some row ∧ row.length = n * e.size ∧ (e.plain = true → row.all simple = true) ∧
      ∃ f : Nat → List Value, row = (List.range n).flatMap f ∧ ∀ i, i < n → Sh rows e (f i) ∧ (f i).length = e.size
theorem Sh.mono {rows rows' : List (List Value)} (h : ∀ (i : Nat) r, rows[i]? = some r → rows'[i]? = some r) : ∀ {t : Ty} {cs : List Value}, Sh rows t cs → Sh rows' t cs
  | .int _, _, hs => hs
  | .bool, _, hs => hs
  | .str, _, hs => hs
  | .unit, _, hs => hs
  | .pair a b, cs, ⟨l, r, h1, h2, h3⟩ => ⟨l, r, h1, Sh.mono h h2, Sh.mono h h3⟩
  | .slice e, cs, hs => by
    rcases hs with hs | ⟨x, n, c, row, h1, h2, h3, h4, h5, f, h6, h7⟩
    · exact .inl hs
    · exact .inr ⟨x, n, c, row, h1, h2, h _ _ h3, h4, h5, f, h6, fun i hi => ⟨Sh.mono h (h7 i hi).1, (h7 i hi).2⟩⟩
theorem Sh.length {rows : List (List Value)} : ∀ {t : Ty} {cs : List Value}, Sh rows t cs → cs.length = t.size
  | .int _, _, ⟨_, h, _⟩ => by rw [h]; rfl
  | .bool, _, ⟨_, h⟩ => by rw [h]; rfl
  | .str, _, ⟨_, h, _⟩ => by rw [h]; rfl
  | .unit, _, h => by rw [show _ = [] from h]; rfl
  | .pair a b, _, ⟨l, r, h1, h2, h3⟩ => by rw [h1, List.length_append, Sh.length h2, Sh.length h3]; rfl
  | .slice e, _, hs => by
    rcases hs with hs | ⟨x, n, c, row, h1, _⟩
    · rw [hs]; rfl
    · rw [h1]; rfl
theorem Sh.simple {rows : List (List Value)} : ∀ {t : Ty} {cs : List Value}, t.plain = true → Sh rows t cs → cs.all simple = true
  | .int _, _, _, ⟨_, h, _⟩ => by rw [h]; rfl
  | .bool, _, _, ⟨_, h⟩ => by rw [h]; rfl
  | .str, _, _, ⟨_, h, _⟩ => by rw [h]; rfl
  | .unit, _, _, h => by rw [show _ = [] from h]; rfl
  | .pair a b, _, hp, ⟨l, r, h1, h2, h3⟩ => by
    simp only [Ty.plain, Bool.and_eq_true] at hp
    rw [h1, List.all_append, Sh.simple hp.1 h2, Sh.simple hp.2 h3]; rfl
  | .slice e, _, hp, _ => by simp [Ty.plain] at hp
section
variable {H : Type} {enc : TypeId × Value → H} {E : Env} {w : World}
def Leads (w : World) (v : Value) : Prop := ∀ a n q, v = .slice (some a) n q → ∃ (b : Nat) (c : Array Value) (el : TypeId) (fr : Nat × Nat), w.heap[b]? = some (.cells c el fr)
structure Good (E : Env) (w : World) (rows : List (List Value)) (φ : NM) : Prop where
  dom : ∀ x, rows.length ≤ x → φ x = none
  row : ∀ i r, rows[i]? = some r → ∃ e, φ i = some e ∧ e.blk < w.heap.size ∧ RelB E φ w (.cells r true) e
def More (rows rows' : List (List Value)) : Prop := ∀ (i : Nat) r, rows[i]? = some r → rows'[i]? = some r
theorem More.refl (rows : List (List Value)) : More rows rows := fun _ _ h => h
theorem More.trans {a b c : List (List Value)} (h : More a b) (h' : More b c) : More a c := fun i r hr => h' i r (h i r hr)
theorem flat_at {n k : Nat} {f : Nat → List Value} (hf : ∀ q, q < n → (f q).length = k) : ∀ {i : Nat} {v : Value}, ((List.range n).flatMap f)[i]? = some v → ∃ q r, q < n ∧ r < k ∧ i = q * k + r ∧ (f q)[r]? = some v := by
  induction n with
  | zero => intro i v h; simp at h
  | succ n ih =>
    intro i v h
    have hlen : ((List.range n).flatMap f).length = n * k := by
      have : ∀ m, m ≤ n → ((List.range m).flatMap f).length = m * k := by
        intro m
        induction m with
        | zero => intro _; simp
        | succ m ihm => intro hm; rw [List.range_succ, List.flatMap_append, List.length_append, ihm (by omega), Nat.succ_mul]; simp [hf m (by omega)]
      exact this n (Nat.le_refl _)
    rw [List.range_succ, List.flatMap_append] at h
    by_cases hi : i < n * k
    · rw [List.getElem?_append_left (by rw [hlen]; exact hi)] at h
      obtain ⟨q, r, h1, h2, h3, h4⟩ := ih (fun q hq => hf q (by omega)) h
      exact ⟨q, r, by omega, h2, h3, h4⟩
    · rw [List.getElem?_append_right (by rw [hlen]; omega), hlen] at h
      have h' : (f n)[i - n * k]? = some v := by simpa using h
      have hlt := (List.getElem?_eq_some_iff.1 h').1
      rw [hf n (by omega)] at hlt
      exact ⟨n, i - n * k, by omega, hlt, by omega, h'⟩
theorem flat_len {n k : Nat} {f : Nat → List Value} (hf : ∀ q, q < n → (f q).length = k) : ((List.range n).flatMap f).length = n * k := by
  induction n with
  | zero => simp
  | succ n ih => rw [List.range_succ, List.flatMap_append, List.length_append, ih fun q hq => hf q (by omega), Nat.succ_mul]; simp [hf n (by omega)]
theorem cell_add {a : Addr} {c : Array Value} {el : TypeId} {fr : Nat × Nat} (hs : a.spot = none) (hb : w.heap[a.block]? = some (.cells c el fr)) (j : Nat) : w.cell? (a.add j) = c[a.off + j]? := by
  obtain ⟨b, off, spot⟩ := a
  subst hs
  unfold Addr.add World.cell?
  by_cases hj : j = 0
  · subst hj; simp at hb ⊢; simp [hb]
  · simp [hj] at hb ⊢; simp [hb]
theorem Good.push {rows : List (List Value)} {φ : NM} (h : Good E w rows φ) {r : List Value} {e : Ent} (hb : e.blk < w.heap.size) (hB : RelB E φ w (.cells r true) e) :
    Good E w (rows ++ [r]) (fun x => if x = rows.length then some e else φ x) ∧ Ext φ (fun x => if x = rows.length then some e else φ x) ∧ More rows (rows ++ [r]) := by
  have hext : Ext φ (fun x => if x = rows.length then some e else φ x) := fun x ex hx => by
    by_cases h' : x = rows.length
    · subst h'; rw [h.dom _ (Nat.le_refl _)] at hx; cases hx
    · simp only [if_neg h']; exact hx
  refine ⟨⟨fun x hx => ?_, fun i r' hr' => ?_⟩, hext, fun i r' hr' => ?_⟩
  · simp at hx
    simp only [if_neg (show ¬ x = rows.length by omega)]
    exact h.dom x (by omega)
  · by_cases hi : i < rows.length
    · rw [List.getElem?_append_left hi] at hr'
      obtain ⟨ex, h1, h2, h3⟩ := h.row i r' hr'
      exact ⟨ex, hext i ex h1, h2, h3.mono hext rfl⟩
    · rw [List.getElem?_append_right (by omega)] at hr'
      have : i = rows.length := by
        rcases Nat.eq_or_lt_of_le (Nat.le_of_not_lt hi) with h' | h'
        · exact h'.symm
        · rw [List.getElem?_eq_none (by simp; omega)] at hr'; cases hr'
      subst this
      simp at hr'
      subst hr'
      exact ⟨e, by simp, hb, hB.mono hext rfl⟩
  · have := (List.getElem?_eq_some_iff.1 hr').1
    rw [List.getElem?_append_left this]; exact hr'
theorem elems_abs {te : Ty} {e : TypeId} {n : Nat}
    (ih : ∀ (cs : List Value) (x : DataW H × List MemPlace), DataW.trod enc E.P w 0 (fun _ => true) true n e cs = some x → (∀ v ∈ cs, Leads w v) → ∀ (rows : List (List Value)) (φ : NM), Good E w rows φ →
      ∃ rows' φ' ac, More rows rows' ∧ Ext φ φ' ∧ Good E w rows' φ' ∧ RelL E.lab φ' ac cs ∧ Sh rows' te ac) {g : Nat → List Value} :
    ∀ (m : Nat), (∀ i, i < m → ∃ x, DataW.trod enc E.P w 0 (fun _ => true) true n e (g i) = some x) → (∀ i, i < m → ∀ v ∈ g i, Leads w v) → ∀ (rows : List (List Value)) (φ : NM), Good E w rows φ →
      ∃ rows' φ', ∃ f : Nat → List Value, More rows rows' ∧ Ext φ φ' ∧ Good E w rows' φ' ∧ ∀ i, i < m → RelL E.lab φ' (f i) (g i) ∧ Sh rows' te (f i)
  | 0, _, _, rows, φ, hg => ⟨rows, φ, fun _ => [], More.refl _, Ext.refl _, hg, fun i hi => absurd hi (by omega)⟩
  | m + 1, hx, hl, rows, φ, hg => by
    obtain ⟨rows1, φ1, f1, a1, a2, a3, a4⟩ := elems_abs ih m (fun i hi => hx i (by omega)) (fun i hi => hl i (by omega)) rows φ hg
    obtain ⟨x, hx'⟩ := hx m (by omega)
    obtain ⟨rows2, φ2, ac, b1, b2, b3, b4, b5⟩ := ih (g m) x hx' (hl m (by omega)) rows1 φ1 a3
    refine ⟨rows2, φ2, fun i => if i = m then ac else f1 i, a1.trans b1, a2.trans b2, b3, fun i hi => ?_⟩
    by_cases h : i = m
    · subst h; simp only [if_true]; exact ⟨b4, b5⟩
    · simp only [if_neg h]
      obtain ⟨c1, c2⟩ := a4 i (by omega)
      exact ⟨c1.mono b2, c2.mono b1⟩
theorem slice_cells {te : Ty} {t e : TypeId} {cs : List Value} {fuel : Nat} {x : DataW H × List MemPlace} (ht : E.P.underlying t = some (.slice e)) (hsz : te.size = E.P.cellsOf e) (h0 : 0 < te.size)
    (ih : ∀ (fuel : Nat) (cs : List Value) (x : DataW H × List MemPlace), DataW.trod enc E.P w 0 (fun _ => true) true fuel e cs = some x → (∀ v ∈ cs, Leads w v) → ∀ (rows : List (List Value)) (φ : NM), Good E w rows φ →
      ∃ rows' φ' ac, More rows rows' ∧ Ext φ φ' ∧ Good E w rows' φ' ∧ RelL E.lab φ' ac cs ∧ Sh rows' te ac)
    (hx : DataW.trod enc E.P w 0 (fun _ => true) true fuel t cs = some x) (hl : ∀ v ∈ cs, Leads w v) {rows : List (List Value)} {φ : NM} (hg : Good E w rows φ) :
    ∃ rows' φ' ac, More rows rows' ∧ Ext φ φ' ∧ Good E w rows' φ' ∧ RelL E.lab φ' ac cs ∧ Sh rows' (.slice te) ac := by
  rcases Go.Deep.open_slice ht hx with ⟨rfl, _⟩ | ⟨a, len, cap, m, n, D, Pl, rfl, _, hlen, hcap, hm, _, hel⟩
  · exact ⟨rows, φ, [.slice none 0 0], More.refl _, Ext.refl _, hg, RelL.cons .nilSlice RelL.nil, .inl rfl⟩
  · simp only [if_true] at hm
    subst hm
    obtain ⟨b0, c0, el0, fr0, hb0⟩ := hl _ (List.mem_singleton.2 rfl) a len m rfl
    have hlead : ∀ v, Leads w v := fun v _ _ _ _ => ⟨b0, c0, el0, fr0, hb0⟩
    obtain ⟨b, c, el, fr, hb, hbase⟩ : ∃ (b : Nat) (c : Array Value) (el : TypeId) (fr : Nat × Nat), w.heap[b]? = some (.cells c el fr) ∧ (0 < m → a = ⟨b, a.off, none⟩) := by
      rcases Nat.eq_zero_or_pos m with h | h
      · exact ⟨b0, c0, el0, fr0, hb0, fun h' => by omega⟩
      · obtain ⟨cs', h1, h2⟩ := hel 0 h
        obtain ⟨_, h4, h5⟩ := World.cells?_some h1
        obtain ⟨v, hv⟩ : ∃ v, cs'[0]? = some v := ⟨cs'[0]'(by omega), List.getElem?_eq_getElem (by omega)⟩
        have h6 := h5 0 (by omega)
        rw [Nat.zero_mul, hv] at h6
        have e0 : (a.add 0).add 0 = a := by simp [Addr.add]
        rw [e0] at h6
        unfold World.cell? at h6
        split at h6
        · rename_i c el fr hc
          split at h6
          · cases h6
          · rename_i hs
            refine ⟨a.block, c, el, fr, hc, fun _ => ?_⟩
            obtain ⟨b, o, s⟩ := a
            cases s with
            | none => rfl
            | some s => exact absurd rfl hs
        · cases h6
    obtain ⟨gc, hgc⟩ := Go.Deep.choose_lt (α := List Value) (p := fun i cs' => cs'.length = te.size ∧ (∀ j, j < cs'.length → c[a.off + (i * te.size + j)]? = cs'[j]?) ∧ ∃ x, DataW.trod enc E.P w 0 (fun _ => true) true n e cs' = some x) (n := m) fun i hi => by
      obtain ⟨cs', h1, h2⟩ := hel i hi
      obtain ⟨_, h4, h5⟩ := World.cells?_some h1
      refine ⟨cs', by rw [h4, hsz], fun j hj => ?_, _, h2⟩
      have ha := hbase (by omega)
      rw [← h5 j (by omega), Go.Deep.add_add, ← hsz]
      rw [ha]
      rw [cell_add rfl hb]
    obtain ⟨rows1, φ1, f, m1, x1, g1, hf⟩ := elems_abs (ih n) m (fun i hi => (hgc i hi).2.2) (fun i hi v _ => hlead v) rows φ hg
    have hfl : ∀ q, q < len → (f q).length = te.size := fun q hq => by rw [(hf q (by omega)).1.1, (hgc q (by omega)).1]
    have hrl : ((List.range len).flatMap f).length = len * te.size := flat_len hfl
    have hsimple : te.plain = true → ((List.range len).flatMap f).all simple = true := by
      intro hp
      rw [List.all_eq_true]
      intro v hv
      obtain ⟨q, hq, hv⟩ := List.mem_flatMap.1 hv
      exact List.all_eq_true.1 (Sh.simple hp (hf q (by simp at hq; omega)).2) v hv
    have hsize : m = 0 ∨ a.off + m * te.size ≤ c.size := by
      rcases Nat.eq_zero_or_pos m with h | h
      · exact .inl h
      · right
        obtain ⟨h1, h2, h3⟩ := hgc (m - 1) (by omega)
        have h4 := h2 (te.size - 1) (by omega)
        rw [List.getElem?_eq_getElem (by omega)] at h4
        have := (Array.getElem?_eq_some_iff.1 h4).1
        have e1 : (m - 1) * te.size + te.size = m * te.size := by rw [← Nat.succ_mul]; congr 1; omega
        omega
    have hlt : len * te.size ≤ m * te.size := Nat.mul_le_mul_right _ hlen
    have hbl : b < w.heap.size := (Array.getElem?_eq_some_iff.1 hb).1
    obtain ⟨g2, x2, m2⟩ := g1.push (r := (List.range len).flatMap f) (e := ⟨b, if m = 0 then 0 else a.off, c.size⟩) hbl (by
      refine ⟨c, el, fr, hb, rfl, ?_, fun h => (by cases h), ?_⟩
      · by_cases hz : m = 0
        · subst hz; simp [show len = 0 by omega]
        · simp only [if_neg hz]; rw [hrl]; rcases hsize with h | h
          · exact absurd h hz
          · omega
      · intro i v hv
        obtain ⟨q, r, h1, h2, h3, h4⟩ := flat_at hfl hv
        by_cases hz : m = 0
        · omega
        · simp only [if_neg hz]
          obtain ⟨k1, k2, _⟩ := hgc q (by omega)
          obtain ⟨v', hv', hr⟩ := (hf q (by omega)).1.get h4
          refine ⟨v', ?_, hr⟩
          rw [h3, k2 r (by omega), hv'])
    refine ⟨_, _, [.slice (some ⟨rows1.length, 0, some te.size⟩) len len], m1.trans m2, x1.trans x2, g2, RelL.cons ?_ RelL.nil, .inr ⟨rows1.length, len, len, (List.range len).flatMap f, rfl, by omega, by simp, hrl, hsimple, f, rfl, fun i hi => ⟨Sh.mono m2 (hf i (by omega)).2, hfl i hi⟩⟩⟩
    refine RelV.slice (e := ⟨b, if m = 0 then 0 else a.off, c.size⟩) (by simp) hlen hlen ?_
    by_cases hz : m = 0
    · exact .inl hz
    · simp only [if_neg hz]
      rcases hsize with h | h
      · exact absurd h hz
      · exact .inr ⟨hbase (by omega), by simpa using h⟩
theorem abs_cells : ∀ (F : Nat) (ty : Ty) (t : TypeId) (cs : List Value) (fuel : Nat) (x : DataW H × List MemPlace), tyOf E.P F t = some ty → DataW.trod enc E.P w 0 (fun _ => true) true fuel t cs = some x → (∀ v ∈ cs, Leads w v) →
    ∀ (rows : List (List Value)) (φ : NM), Good E w rows φ → ∃ rows' φ' ac, More rows rows' ∧ Ext φ φ' ∧ Good E w rows' φ' ∧ RelL E.lab φ' ac cs ∧ Sh rows' ty ac := by
  intro F
  induction F with
  | zero => intro ty t cs fuel x h; cases h
  | succ F ih =>
    have hf : ∀ (fs : List Field) (off : Nat) (ty : Ty) (cs : List Value) (n : Nat), fieldsTy (tyOf E.P F) E.P off fs = some ty → cs.length = off + ty.size → (∀ v ∈ cs, Leads w v) →
        (∀ (i : Nat) (f : Field), fs[i]? = some f → ∃ y, DataW.trod enc E.P w 0 (fun _ => true) true n f.type ((cs.drop f.offset).take (E.P.cellsOf f.type)) = some y) →
        ∀ (rows : List (List Value)) (φ : NM), Good E w rows φ → ∃ rows' φ' ac, More rows rows' ∧ Ext φ φ' ∧ Good E w rows' φ' ∧ RelL E.lab φ' ac (cs.drop off) ∧ Sh rows' ty ac := by
      intro fs
      induction fs with
      | nil =>
        intro off ty cs n h1 h3 hl h4 rows φ hg
        cases h1
        refine ⟨rows, φ, [], More.refl _, Ext.refl _, hg, ?_, rfl⟩
        rw [List.drop_eq_nil_of_le (by simp [Ty.size] at h3; omega)]
        exact RelL.nil
      | cons f fs ihf =>
        intro off ty cs n h1 h3 hl h4 rows φ hg
        simp only [fieldsTy] at h1
        split at h1
        · rename_i tf htf
          split at h1
          · rename_i hc
            rw [Option.map_eq_some_iff] at h1
            obtain ⟨r, hr, rfl⟩ := h1
            obtain ⟨y, hy⟩ := h4 0 f rfl
            obtain ⟨rows1, φ1, ac1, a1, a2, a3, a4, a5⟩ := ih tf f.type _ n y htf hy (fun v hv => hl v (List.mem_of_mem_drop (List.mem_of_mem_take hv))) rows φ hg
            obtain ⟨rows2, φ2, ac2, b1, b2, b3, b4, b5⟩ := ihf (off + tf.size) r cs n hr (by simp only [Ty.size] at h3; omega) hl (fun i g hg => h4 (i + 1) g (by simpa using hg)) rows1 φ1 a3
            refine ⟨rows2, φ2, ac1 ++ ac2, a1.trans b1, a2.trans b2, b3, ?_, ac1, ac2, rfl, a5.mono b1, b5⟩
            have := (a4.mono b2).append b4
            rwa [hc.1, ← hc.2, ← List.drop_drop, List.take_append_drop] at this
          · cases h1
        · cases h1
    have ha : ∀ (te : Ty) (e : TypeId) (fuel : Nat), tyOf E.P F e = some te → ∀ (n : Nat) (cs : List Value), cs.length = n * te.size → (∀ v ∈ cs, Leads w v) →
        (∀ i, i < n → ∃ y, DataW.trod enc E.P w 0 (fun _ => true) true fuel e ((cs.drop (i * te.size)).take te.size) = some y) →
        ∀ (rows : List (List Value)) (φ : NM), Good E w rows φ → ∃ rows' φ' ac, More rows rows' ∧ Ext φ φ' ∧ Good E w rows' φ' ∧ RelL E.lab φ' ac cs ∧ Sh rows' (.rep n te) ac := by
      intro te e fuel hte n
      induction n with
      | zero =>
        intro cs hl _ _ rows φ hg
        rw [show cs = [] from List.eq_nil_of_length_eq_zero (by simpa using hl)]
        exact ⟨rows, φ, [], More.refl _, Ext.refl _, hg, RelL.nil, rfl⟩
      | succ n ihn =>
        intro cs hl hld h4 rows φ hg
        have hm : (n + 1) * te.size = n * te.size + te.size := Nat.succ_mul n te.size
        obtain ⟨y, hy⟩ := h4 0 (by omega)
        simp only [Nat.zero_mul, List.drop_zero] at hy
        obtain ⟨rows1, φ1, ac1, a1, a2, a3, a4, a5⟩ := ih te e _ fuel y hte hy (fun v hv => hld v (List.mem_of_mem_take hv)) rows φ hg
        obtain ⟨rows2, φ2, ac2, b1, b2, b3, b4, b5⟩ := ihn (cs.drop te.size) (by rw [List.length_drop]; omega) (fun v hv => hld v (List.mem_of_mem_drop hv)) (fun i hi => by
          obtain ⟨z, hz⟩ := h4 (i + 1) (by omega)
          rw [Nat.succ_mul, Nat.add_comm (i * te.size), ← List.drop_drop] at hz
          exact ⟨z, hz⟩) rows1 φ1 a3
        refine ⟨rows2, φ2, ac1 ++ ac2, a1.trans b1, a2.trans b2, b3, ?_, ac1, ac2, rfl, a5.mono b1, b5⟩
        have := (a4.mono b2).append b4
        rwa [List.take_append_drop] at this
    intro ty t cs fuel x h hx hl rows φ hg
    have plain : ∀ {s : Ty}, s.plain = true → Sh rows s cs → ∃ rows' φ' ac, More rows rows' ∧ Ext φ φ' ∧ Good E w rows' φ' ∧ RelL E.lab φ' ac cs ∧ Sh rows' s ac :=
      fun hp hs => ⟨rows, φ, cs, More.refl _, Ext.refl _, hg, relL_simple (Sh.simple hp hs), hs⟩
    simp only [tyOf] at h
    split at h
    · rename_i ht; cases h; obtain ⟨b, rfl, _⟩ := DataW.trod_bool ht hx; exact plain rfl ⟨b, rfl⟩
    · rename_i k ht; cases h; obtain ⟨n, rfl, _, hw⟩ := DataW.trod_int ht hx; exact plain rfl ⟨n, rfl, hw⟩
    · rename_i ht; cases h; obtain ⟨s, rfl, _, hs⟩ := DataW.trod_string ht hx; exact plain rfl ⟨s, rfl, hs⟩
    · rename_i e ht
      split at h
      · rename_i te hte
        split at h
        · rename_i hc
          cases h
          exact slice_cells ht hc.1 hc.2 (fun fuel cs x => ih te e cs fuel x hte) hx hl hg
        · cases h
      · cases h
    · rename_i fs ht
      split at h
      · rename_i ty' hty
        split at h
        · rename_i hsz
          cases h
          obtain ⟨xs, n, _, _, hln, hxl, hget⟩ := DataW.trod_struct ht hx
          have := hf fs.toList 0 ty cs n hty (by rw [hln, hsz, Nat.zero_add]) hl (fun i f hi => by
            have hi' : fs[i]? = some f := by simpa using hi
            have hlt : i < xs.length := by rw [hxl]; exact (Array.getElem?_eq_some_iff.1 hi').1
            exact ⟨xs[i], by rw [hget i f hi', List.getElem?_eq_getElem hlt]⟩) rows φ hg
          simpa using this
        · cases h
      · cases h
    · rename_i n e ht
      split at h
      · rename_i te hte
        split at h
        · rename_i hsz
          cases h
          obtain ⟨xs, m, _, _, hln, hxl, hget⟩ := DataW.trod_array ht hx
          exact ha te e m hte n cs (by rw [hln, hsz.2]) hl (fun i hi => ⟨xs[i], by rw [hsz.1, hget i hi, List.getElem?_eq_getElem]⟩) rows φ hg
        · cases h
      · cases h
    · cases h
def Ty.one : Ty → Bool
  | .unit => false
  | .pair _ _ => false
  | _ => true
def mkV (t : Ty) (ac : List Value) : Value := if t.one then ac.headD undef else .agg ac.toArray
theorem leads_of_cell {P : Program} {r : Reach} {base : Nat} {u : TypeId} {v : Value} (h : Cell.okWide P w r base u v) : Leads w v := by
  intro a n q hv
  subst hv
  have h2 : Cell.ok P w r base u (.slice (some a) n q) := by
    unfold Cell.okWide at h
    split at h <;> simp_all
  unfold Cell.ok at h2
  generalize P.underlying u = o at h2
  cases o with
  | none => exact h2.elim
  | some d =>
    cases d with
    | slice e =>
      obtain ⟨_, _, _, hs, row, cells, hsh, _⟩ := h2
      unfold World.shape? at hsh
      split at hsh
      · rename_i c el fr hc; exact ⟨_, c, el, fr, hc⟩
      · cases hsh
    | _ => exact h2.elim
theorem fieldsTy_one {rec : TypeId → Option Ty} {P : Program} : ∀ {off : Nat} {fs : List Field} {ty : Ty}, fieldsTy rec P off fs = some ty → ty.one = false
  | _, [], _, h => by cases h; rfl
  | off, f :: fs, ty, h => by
    simp only [fieldsTy] at h
    split at h
    · split at h
      · rw [Option.map_eq_some_iff] at h
        obtain ⟨r, _, rfl⟩ := h
        rfl
      · cases h
    · cases h
theorem rep_one {e : Ty} : ∀ {n : Nat}, (Ty.rep n e).one = false
  | 0 => rfl
  | _ + 1 => rfl
theorem one_of_ty {P : Program} {F : Nat} {ty : Ty} {t : TypeId} {v : Value} {r : Reach} {base : Nat} (hty : tyOf P F t = some ty) (hval : Value.okWide P w r base t v) : (ty.one = false ∧ ∃ cs, v = .agg cs ∧ Row.okWide P w r base t cs) ∨ (ty.one = true ∧ v.cells = #[v] ∧ Cell.okWide P w r base t v) := by
  cases F with
  | zero => cases hty
  | succ F =>
    unfold Value.okWide at hval
    simp only [tyOf] at hty
    split at hty
    · rename_i ht; cases hty; rw [ht] at hval; right
      refine ⟨rfl, ?_, hval⟩
      cases v <;> simp [Cell.okWide, Cell.ok, ht, Value.cells] at hval ⊢
    · rename_i ht; cases hty; rw [ht] at hval; right
      refine ⟨rfl, ?_, hval⟩
      cases v <;> simp [Cell.okWide, Cell.ok, ht, Value.cells] at hval ⊢
    · rename_i ht; cases hty; rw [ht] at hval; right
      refine ⟨rfl, ?_, hval⟩
      cases v <;> simp [Cell.okWide, Cell.ok, ht, Value.cells] at hval ⊢
    · rename_i ht
      rw [ht] at hval
      split at hty
      · split at hty
        · cases hty; right
          refine ⟨rfl, ?_, hval⟩
          cases v <;> simp [Cell.okWide, Cell.ok, ht, Value.cells] at hval ⊢
        · cases hty
      · cases hty
    · rename_i ht
      rw [ht] at hval
      obtain ⟨cs, rfl, _, hr⟩ := hval
      split at hty
      · rename_i ty' hty'
        split at hty
        · cases hty; exact .inl ⟨fieldsTy_one hty', cs, rfl, hr⟩
        · cases hty
      · cases hty
    · rename_i ht
      rw [ht] at hval
      obtain ⟨cs, rfl, _, hr⟩ := hval
      split at hty
      · split at hty
        · cases hty; exact .inl ⟨rep_one, cs, rfl, hr⟩
        · cases hty
      · cases hty
    · cases hty
theorem abs_arg {F : Nat} {ty : Ty} {t : TypeId} {v : Value} {d : DataW H} {ps : List MemPlace} {r : Reach} {base : Nat} (hty : tyOf E.P F t = some ty) (hval : Value.okWide E.P w r base t v) (h : DataW.Trod enc E.P w 0 (fun _ => true) true t v d ps)
    {rows : List (List Value)} {φ : NM} (hg : Good E w rows φ) : ∃ rows' φ' ac, More rows rows' ∧ Ext φ φ' ∧ Good E w rows' φ' ∧ RelV E.lab φ' (mkV ty ac) v ∧ Sh rows' ty ac := by
  obtain ⟨fuel, hx⟩ := h
  have hone := one_of_ty hty hval
  have hl : ∀ u ∈ v.cells.toList, Leads w u := by
    rcases hone with ⟨_, cs, rfl, ts, _, _, hr⟩ | ⟨_, hc, hv⟩
    · intro u hu
      obtain ⟨i, hi⟩ := List.mem_iff_getElem?.1 hu
      obtain ⟨u', _, hu'⟩ := hr i u (by simpa [Value.cells] using hi)
      exact leads_of_cell hu'
    · intro u hu
      rw [hc] at hu
      simp at hu
      subst hu
      exact leads_of_cell hv
  obtain ⟨rows', φ', ac, h1, h2, h3, h4, h5⟩ := abs_cells F ty t _ fuel _ hty hx hl rows φ hg
  refine ⟨rows', φ', ac, h1, h2, h3, ?_, h5⟩
  unfold mkV
  rcases hone with ⟨ho, cs, rfl, _⟩ | ⟨ho, hc, _⟩
  · rw [if_neg (by simp [ho])]
    exact RelL.agg (by simpa [Value.cells] using h4)
  · rw [if_pos ho]
    rw [hc] at h4
    cases ac with
    | nil => have := h4.1; simp at this
    | cons u us => exact h4.2 0 u v rfl rfl
theorem Good.start : Good E w [] fun _ => none := ⟨fun _ _ => rfl, fun i r h => by simp at h⟩
theorem Good.rel {rows : List (List Value)} {φ : NM} (h : Good E w rows φ) (hW : ∀ b, b < E.W0.size → w.heap[b]? = E.W0[b]?) (lim : Nat) : Rel E lim φ (roHp rows) w := by
  refine ⟨fun x e hx => ?_, fun x e hx => ?_, fun x b e hb hx => ?_, fun x y b c ex ey _ hb _ _ _ hrw => ?_, hW, fun x e hx _ => ?_⟩
  · rcases Nat.lt_or_ge x rows.length with h' | h'
    · exact .inl h'
    · rw [h.dom x h'] at hx; cases hx
  · rcases Nat.lt_or_ge x rows.length with h' | h'
    · obtain ⟨e', he', hlt, _⟩ := h.row x rows[x] (List.getElem?_eq_getElem h')
      rw [hx] at he'; cases he'; exact hlt
    · rw [h.dom x h'] at hx; cases hx
  · rw [roHp_get, Option.map_eq_some_iff] at hb
    obtain ⟨r, hr, rfl⟩ := hb
    obtain ⟨e', he', _, hB⟩ := h.row x r hr
    rw [hx] at he'; cases he'; exact hB
  · rw [roHp_get, Option.map_eq_some_iff] at hb
    obtain ⟨r, hr, rfl⟩ := hb
    cases hrw
  · rcases Nat.lt_or_ge x rows.length with h' | h'
    · exact ⟨.cells rows[x] true, by rw [roHp_get, List.getElem?_eq_getElem h']; rfl, rfl⟩
    · rw [h.dom x h'] at hx; cases hx
theorem law_calls {K : Nat → Option Spec} (hK : SpecsOk E K) {rows : List (List Value)} {φ : NM} {f : Nat} {f' : FuncId} {args args' : List Value} (hg : Good E w rows φ) (hlab : E.lab f' = f) (hfn : ∃ nt rs body, E.AP f = some (.fn nt rs body)) (hrel : RelL E.lab φ args args')
    (h : WF E.AP K rows.length f args (roHp rows) fun v _ => v = .bool true) (hW : ∀ b, b < E.W0.size → w.heap[b]? = E.W0[b]? := by exact fun b hb => absurd hb (Nat.not_lt_zero b)) : Calls E.P f' args'.toArray w fun e w' => e = .returned (.bool true) ∧ Go.RowKit.Below w.heap.size w w' := by
  obtain ⟨m, d, v, A', hr, rfl⟩ := h
  have hs := callA_sound hK hr hfn A'.n φ w f' args' (Nat.le_refl _) hlab hrel (hg.rel hW _)
  refine (hs.mono ?_).calls (fun k => ?_)
  · rintro e w' ⟨v', φ', rfl, hv, hP⟩
    cases hv
    refine ⟨rfl, hP.env.1, hP.env.2.2, hP.env.2.1, hP.size, fun b hb => hP.frame b hb fun x e hx _ => ?_⟩
    rcases Nat.lt_or_ge x rows.length with h' | h'
    · exact .inl h'
    · rw [hg.dom x h'] at hx; cases hx
  · intro d hd; cases hd
end
end Go.Ab
set_option maxRecDepth 100000
namespace Go.Ab.Gauge
open Go Go.Ab Go.Proofs
theorem isFn' (f nt : Nat) (rs : List ARes) (c : ACode) (h : AP f = some (.fn nt rs c)) : ∃ nt rs body, E.AP f = some (.fn nt rs body) := ⟨nt, rs, c, h⟩
theorem own : ownKnob Tryz.prog.godebug = none := by kernel_rfl
theorem laidOut : laidOutB Tryz.prog = true := by kernel_rfl
end Go.Ab.Gauge
namespace Go.Ab
open Go
theorem RdS.more {rows rows' : List (List Value)} {k n : Nat} {cs : List Value} {sl : Value} (h : RdS (roHp rows) k n cs sl) (hm : More rows rows') : RdS (roHp rows') k n cs sl := by
  obtain ⟨h0, h | ⟨b, c, ro, h1, h2⟩⟩ := h
  · exact ⟨h0, .inl h⟩
  · refine ⟨h0, .inr ⟨b, c, ro, h1, ?_⟩⟩
    rw [roHp_get, Option.map_eq_some_iff] at h2
    obtain ⟨r, hr, e⟩ := h2
    rw [roHp_get, hm b r hr]
    exact congrArg some e
end Go.Ab
namespace Go.Ab
open Go
def kints (k : IntKind) (l : List Int) : List Value := l.map (.int k)
@[simp] theorem kints_length (k : IntKind) (l : List Int) : (kints k l).length = l.length := List.length_map ..
def allK (k : IntKind) : Ty → Bool
  | .int k' => decide (k' = k)
  | .unit => true
  | .pair a b => allK k a && allK k b
  | _ => false
theorem kints_append {k : IntKind} (a b : List Int) : kints k (a ++ b) = kints k a ++ kints k b := List.map_append ..
theorem sh_k {rows : List (List Value)} {k : IntKind} : ∀ {t : Ty} {cs : List Value}, allK k t = true → Sh rows t cs → ∃ zs : List Int, cs = kints k zs ∧ ∀ z ∈ zs, k.min ≤ z ∧ z ≤ k.max
  | .int k', cs, h, ⟨n, hn, hw⟩ => by
    have e : k' = k := by simpa [allK] using h
    subst e
    exact ⟨[n], hn, fun z hz => by rw [List.mem_singleton] at hz; subst hz; exact (Lit.wf_int_iff k' z).1 hw⟩
  | .unit, cs, _, h => ⟨[], h, fun z hz => by cases hz⟩
  | .pair a b, cs, h, ⟨l, r, h1, h2, h3⟩ => by
    simp only [allK, Bool.and_eq_true] at h
    obtain ⟨za, ea, ba⟩ := sh_k h.1 h2
    obtain ⟨zb, eb, bb⟩ := sh_k h.2 h3
    refine ⟨za ++ zb, by rw [h1, ea, eb, kints_append], fun z hz => ?_⟩
    rcases List.mem_append.1 hz with h' | h'
    · exact ba z h'
    · exact bb z h'
  | .bool, _, h, _ => by simp [allK] at h
  | .str, _, h, _ => by simp [allK] at h
  | .slice _, _, h, _ => by simp [allK] at h
theorem kints_flatMap {k : IntKind} {f : Nat → List Int} {n : Nat} : (List.range n).flatMap (fun i => kints k (f i)) = kints k ((List.range n).flatMap f) := by
  simp only [kints, List.map_flatMap]
theorem sh_slice_k {rows : List (List Value)} {k : IntKind} {e : Ty} {cs : List Value} (he : allK k e = true) (h : Sh rows (.slice e) cs) :
    ∃ (n : Nat) (zs : List Int) (sl : Value), cs = [sl] ∧ RdS (roHp rows) e.size n (kints k zs) sl ∧ n ≤ maxLen ∧ ∀ z ∈ zs, k.min ≤ z ∧ z ≤ k.max := by
  rcases h with rfl | ⟨x, n, q, row, rfl, hn, hrow, hlen, hs, f, rfl, hf⟩
  · exact ⟨0, [], _, rfl, ⟨by simp [kints], .inl ⟨rfl, rfl⟩⟩, Nat.zero_le _, fun z hz => by cases hz⟩
  · obtain ⟨p, hp⟩ := Go.Deep.choose_lt (α := List Int) (p := fun i p => f i = kints k p ∧ ∀ z ∈ p, k.min ≤ z ∧ z ≤ k.max) fun i hi => sh_k he (hf i hi).1
    have e1 : (List.range n).flatMap f = kints k ((List.range n).flatMap p) := by
      rw [← kints_flatMap]
      exact Go.Deep.flatMap_congr_range fun i hi => (hp i hi).1
    refine ⟨n, (List.range n).flatMap p, _, rfl, ⟨by rw [← e1, hlen], .inr ⟨x, q, true, rfl, by rw [roHp_get, hrow, ← e1]; rfl⟩⟩, hn, fun z hz => ?_⟩
    obtain ⟨i, hi, hz⟩ := List.mem_flatMap.1 hz
    exact (hp i (by simpa using hi)).2 z hz
theorem sh_int {rows : List (List Value)} {k : IntKind} {cs : List Value} (h : Sh rows (.int k) cs) : ∃ n, cs = [.int k n] ∧ k.min ≤ n ∧ n ≤ k.max := by
  obtain ⟨n, h1, h2⟩ := h
  exact ⟨n, h1, (Lit.wf_int_iff k n).1 h2⟩
end Go.Ab
