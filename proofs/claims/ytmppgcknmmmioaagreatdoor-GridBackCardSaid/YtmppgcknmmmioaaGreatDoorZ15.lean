/- A grid among a law's arguments. -/
import Derived.Test.YtmppgcknmmmioaaGreatDoorZ14
import Derived.Lib.TrimAscii
import Derived.Test.YtmppgcknmmmioaaGreatDoorZ13
import Derived.Test.YtmppgcknmmmioaaGreatDoorZ12
import Derived.Test.YtmppgcknmmmioaaGreatDoorZ08
import Derived.Test.YtmppgcknmmmioaaGreatDoorTie
import Derived.Lib.LaidU8
import Derived.Shelf.Vars
import Derived.Lay
import Derived.Handed
import Derived.MakeChecks
set_option linter.unusedSimpArgs false
set_option linter.unusedVariables false
set_option linter.unusedSectionVars false
set_option maxRecDepth 100000
namespace Go.Ab.Grid
open Go Go.Ab
theorem ofNat_dig {k : Nat} (h : k < 10) : (UInt8.ofNat (48 + k)).toNat = 48 + k := by
  rw [UInt8.toNat_ofNat']
  omega
theorem dec_dig : ∀ (u : Nat) {b : UInt8}, b ∈ Lib.decDigits u → 48 ≤ b.toNat ∧ b.toNat ≤ 57 := by
  intro u
  induction u using Nat.strongRecOn with
  | _ u ih =>
    intro b hb
    rw [Lib.decDigits] at hb
    split at hb
    · rw [List.mem_singleton] at hb
      subst hb
      rw [ofNat_dig (by omega)]; omega
    · rcases List.mem_append.1 hb with h | h
      · exact ih (u / 10) (by omega) h
      · rw [List.mem_singleton] at h
        subst h
        rw [ofNat_dig (by omega)]; omega
theorem dec_ne : ∀ (u : Nat), Lib.decDigits u ≠ [] := by
  intro u h
  rw [Lib.decDigits] at h
  split at h
  · cases h
  · simp at h
theorem parse_dec : ∀ (u : Nat) (r : List UInt8), u < 1000000000 → Lib.parseUint10 0 (Lib.decDigits u ++ r) = Lib.parseUint10 u r := by
  intro u
  induction u using Nat.strongRecOn with
  | _ u ih =>
    intro r hu
    rw [Lib.decDigits]
    split
    · rename_i h
      simp only [List.singleton_append, Lib.parseUint10]
      rw [ofNat_dig h, if_pos (by omega), if_neg (by omega), if_neg (by omega)]
      congr 1
      omega
    · rename_i h
      rw [List.append_assoc, ih (u / 10) (by omega) _ (by omega)]
      simp only [List.singleton_append, Lib.parseUint10]
      rw [ofNat_dig (by omega), if_pos (by omega), if_neg (by omega), if_neg (by omega)]
      congr 1
      omega
theorem mag_dec {u : Nat} (hu : u < 1000000000) : Lib.parseMag (Lib.decDigits u) = .ok u := by
  unfold Lib.parseMag
  rw [if_neg (dec_ne u)]
  have := parse_dec u [] hu
  rw [List.append_nil] at this
  rw [this]
  rfl
theorem atoi_itoa {n : Int} (h : -1200000 ≤ n ∧ n ≤ 1200000) : numV (itoaA n) = some n := by
  rw [itoaA_eq (by omega) (by omega)]
  unfold numV Lib.itoa
  by_cases hn : n < 0
  · rw [if_pos hn]
    unfold Lib.atoiAll
    have e : (45 : UInt8).toNat = 45 := rfl
    simp only [e, or_true, if_true]
    rw [mag_dec (by omega)]
    simp only [not_true_eq_false, false_and, if_false, true_and]
    rw [if_neg (by omega)]
    simp only [Option.some.injEq]
    omega
  · rw [if_neg hn]
    obtain ⟨u, rfl⟩ : ∃ u : Nat, n = (u : Int) := ⟨n.toNat, by omega⟩
    rw [Int.toNat_natCast]
    have hm := mag_dec (u := u) (by omega)
    cases hd : Lib.decDigits u with
    | nil => exact absurd hd (dec_ne u)
    | cons c r =>
      have hc := dec_dig u (b := c) (by rw [hd]; exact List.mem_cons_self ..)
      rw [hd] at hm
      unfold Lib.atoiAll
      simp only
      rw [if_neg (by omega), hm]
      simp only
      rw [if_neg (by omega), if_neg (by omega), if_neg (by omega)]
def wb (b : UInt8) : Prop := 33 ≤ b.toNat ∧ b.toNat < 127
theorem itoa_b {n : Int} (h : -1200000 ≤ n ∧ n ≤ 1200000) {b : UInt8} (hb : b ∈ itoaA n) : b.toNat = 45 ∨ 48 ≤ b.toNat ∧ b.toNat ≤ 57 := by
  rw [itoaA_eq (by omega) (by omega)] at hb
  unfold Lib.itoa at hb
  split at hb
  · rcases List.mem_cons.1 hb with h1 | h1
    · subst h1; exact .inl rfl
    · exact .inr (dec_dig _ h1)
  · exact .inr (dec_dig _ hb)
theorem itoa_ne {n : Int} (h : -1200000 ≤ n ∧ n ≤ 1200000) : itoaA n ≠ [] := by
  rw [itoaA_eq (by omega) (by omega)]
  unfold Lib.itoa
  split
  · simp
  · exact dec_ne _
theorem index_none : ∀ (l : List UInt8), (46 : UInt8) ∉ l → Lib.index l [46, 46] = -1
  | [], _ => rfl
  | b :: l, h => by
    have hb : b ≠ 46 := fun e => h (by rw [e]; exact List.mem_cons_self ..)
    rw [Lib.index, index_none l fun h' => h (List.mem_cons_of_mem _ h')]
    have : List.isPrefixOf [46, 46] (b :: l) = false := by
      simp [List.isPrefixOf, Ne.symm hb]
    rw [this]
    rfl
theorem index_two : ∀ (l r : List UInt8), (46 : UInt8) ∉ l → Lib.index (l ++ 46 :: 46 :: r) [46, 46] = l.length
  | [], r, _ => by
    rw [List.nil_append, Lib.index]
    have : List.isPrefixOf [46, 46] ((46 : UInt8) :: 46 :: r) = true := by simp [List.isPrefixOf]
    rw [this]
    rfl
  | b :: l, r, h => by
    have hb : b ≠ 46 := fun e => h (by rw [e]; exact List.mem_cons_self ..)
    have ih := index_two l r fun h' => h (List.mem_cons_of_mem _ h')
    rw [List.cons_append, Lib.index, ih]
    have : List.isPrefixOf [46, 46] (b :: (l ++ 46 :: 46 :: r)) = false := by
      simp [List.isPrefixOf, Ne.symm hb]
    rw [this]
    have h2 : (((l.length : Nat) : Int) == -1) = false := by
      rw [beq_eq_false_iff_ne]; omega
    rw [h2]
    simp
theorem cut_none {l : List UInt8} (h : (46 : UInt8) ∉ l) : Lib.cut l [46, 46] = (l, [], false) := by
  unfold Lib.cut
  rw [index_none l h, if_neg (by decide)]
theorem cut_two {l r : List UInt8} (h : (46 : UInt8) ∉ l) : Lib.cut (l ++ [46, 46] ++ r) [46, 46] = (l, r, true) := by
  have e : l ++ [46, 46] ++ r = l ++ 46 :: 46 :: r := by simp
  unfold Lib.cut
  rw [e, index_two l r h, if_pos (by omega)]
  simp
theorem no_dot {n : Int} (h : -1200000 ≤ n ∧ n ≤ 1200000) : (46 : UInt8) ∉ itoaA n := fun hb => by
  have := itoa_b h hb
  have e : (46 : UInt8).toNat = 46 := rfl
  omega
theorem parse_word {st : PSt} {i : Nat} {a b : Int} (ha : -1200000 ≤ a ∧ a ≤ 1200000) (hb : -1200000 ≤ b ∧ b ≤ 1200000) : parseW false i st (wordL a b) = some { st with zs := st.zs ++ [a, b] } := by
  unfold parseW
  rw [if_neg (fun h => by cases h.1)]
  unfold wordL
  by_cases h : a = b
  · rw [if_pos h, cut_none (no_dot ha)]
    simp only [Bool.false_eq_true, if_false]
    rw [atoi_itoa ha, h]
  · rw [if_neg h, cut_two (no_dot ha)]
    simp only [if_true]
    rw [atoi_itoa ha, atoi_itoa hb]
    simp
theorem parse_num {st : PSt} {i : Nat} {n : Int} (hn : -1200000 ≤ n ∧ n ≤ 1200000) (hi : 1 ≤ i) : parseW true i st (itoaA n) = if i = 1 then some { st with w := n } else if i = 2 then some { st with h := n } else if i = 3 then some { st with s := n } else none := by
  unfold parseW
  rw [if_neg (fun h => by have := h.2.1; omega), cut_none (no_dot hn)]
  simp only [Bool.false_eq_true, if_false]
  rw [atoi_itoa hn]
  simp
theorem goD_word {b : UInt8} {f : Nat} {cur t : List UInt8} (hb : wb b) : Lib.fieldsGoD (f + 1) cur (b :: t) = Lib.fieldsGoD f (cur ++ [b]) t := by
  have hd := Lib.decodeL_ascii b t (by have := hb.2; omega)
  rw [Lib.fieldsGoD, if_neg (by simp), hd]
  have hs : Lib.isSpaceR b.toNat = false := by
    obtain ⟨h1, h2⟩ := hb
    unfold Lib.isSpaceR
    simp
    omega
  simp only [hs]
  simp
theorem goD_space {b : UInt8} {f : Nat} {cur t : List UInt8} (hb : b.toNat = 32 ∨ b.toNat = 10) : Lib.fieldsGoD (f + 1) cur (b :: t) = (if cur = [] then [] else [cur]) ++ Lib.fieldsGoD f [] t := by
  have hd := Lib.decodeL_ascii b t (by omega)
  rw [Lib.fieldsGoD, if_neg (by simp), hd]
  have hs : Lib.isSpaceR b.toNat = true := by
    rcases hb with h | h <;> rw [h] <;> decide
  simp only [hs]
  simp
theorem goD_words : ∀ (w : List UInt8) {f : Nat} {cur t : List UInt8}, (∀ b, b ∈ w → wb b) → Lib.fieldsGoD (f + w.length) cur (w ++ t) = Lib.fieldsGoD f (cur ++ w) t
  | [], f, cur, t, _ => by simp
  | b :: w, f, cur, t, h => by
    rw [List.cons_append, List.length_cons, ← Nat.add_assoc, goD_word (h b (List.mem_cons_self ..)), goD_words w fun b hb => h b (List.mem_cons_of_mem _ hb)]
    simp
theorem goD_line : ∀ (l : List (List UInt8)) (x : List UInt8) {f : Nat}, (∀ w, w ∈ x :: l → w ≠ [] ∧ ∀ b, b ∈ w → wb b) → (x ++ Lib.joinTail [32] l ++ [10]).length ≤ f → Lib.fieldsGoD f [] (x ++ Lib.joinTail [32] l ++ [10]) = x :: l
  | [], x, f, h, hf => by
    obtain ⟨h1, h2⟩ := h x (List.mem_cons_self ..)
    have e : Lib.joinTail [32] [] = ([] : List UInt8) := rfl
    rw [e, List.append_nil] at hf ⊢
    obtain ⟨f', rfl⟩ : ∃ f', f = f' + 1 + x.length := ⟨f - 1 - x.length, by simp at hf; omega⟩
    rw [goD_words x h2, List.nil_append, goD_space (.inr rfl), if_neg h1]
    cases f' with
    | zero => rfl
    | succ f' => simp [Lib.fieldsGoD]
  | y :: l, x, f, h, hf => by
    obtain ⟨h1, h2⟩ := h x (List.mem_cons_self ..)
    have e : Lib.joinTail [32] (y :: l) = 32 :: (y ++ Lib.joinTail [32] l) := by simp [Lib.joinTail]
    have e2 : x ++ Lib.joinTail [32] (y :: l) ++ [10] = x ++ 32 :: (y ++ Lib.joinTail [32] l ++ [10]) := by rw [e]; simp
    rw [e2] at hf ⊢
    obtain ⟨f', rfl⟩ : ∃ f', f = f' + 1 + x.length := ⟨f - 1 - x.length, by simp at hf; omega⟩
    rw [goD_words x h2, List.nil_append, goD_space (.inl rfl), if_neg h1, goD_line l y (fun w hw => h w (List.mem_cons_of_mem _ hw)) (by simp at hf ⊢; omega)]
    rfl
theorem fields_line {l : List (List UInt8)} (h0 : l ≠ []) (h : ∀ w, w ∈ l → w ≠ [] ∧ ∀ b, b ∈ w → wb b) : Lib.fieldsD (lineL l) = l := by
  cases l with
  | nil => exact absurd rfl h0
  | cons x l =>
    unfold Lib.fieldsD lineL
    rw [Lib.join_cons]
    exact goD_line l x h (Nat.le_succ _)
theorem idxA_at : ∀ (l r : List UInt8) (k : Nat), (10 : UInt8) ∉ l → idxA (l ++ 10 :: r) 10 k = (k + l.length : Nat)
  | [], r, k, _ => by simp [idxA]
  | b :: l, r, k, h => by
    have hb : (b == 10) = false := by
      rw [beq_eq_false_iff_ne]
      exact fun e => h (by rw [e]; exact List.mem_cons_self ..)
    rw [List.cons_append, idxA, hb, idxA_at l r (k + 1) fun h' => h (List.mem_cons_of_mem _ h')]
    simp
    omega
theorem linesF_flat : ∀ (Ls : List (List UInt8)) {f : Nat}, (∀ L, L ∈ Ls → ∃ l, L = l ++ [10] ∧ (10 : UInt8) ∉ l) → Ls.flatten.length ≤ f → linesF f Ls.flatten = Ls
  | [], f, _, _ => linesF_nil f
  | L :: Ls, f, h, hf => by
    obtain ⟨l, rfl, hl⟩ := h L (List.mem_cons_self ..)
    have e : (((l ++ [10]) :: Ls).flatten : List UInt8) = l ++ 10 :: Ls.flatten := by simp
    rw [e] at hf ⊢
    obtain ⟨f', rfl⟩ : ∃ f', f = f' + 1 := ⟨f - 1, by simp at hf; omega⟩
    have hi : idxB (l ++ 10 :: Ls.flatten) 10 = (l.length : Int) := by
      have := idxA_at l Ls.flatten 0 hl
      unfold idxB
      rw [this]
      simp
    rw [linesF, if_neg (by simp), hi, if_pos (by omega), Int.toNat_natCast]
    have t1 : (l ++ 10 :: Ls.flatten).take (l.length + 1) = l ++ [10] := by
      rw [List.take_append, List.take_of_length_le (by omega)]
      simp
    have t2 : (l ++ 10 :: Ls.flatten).drop (l.length + 1) = Ls.flatten := by
      rw [List.drop_append]
      simp
    rw [t1, t2, linesF_flat Ls (fun L hL => h L (List.mem_cons_of_mem _ hL)) (by simp at hf ⊢; omega)]
end Go.Ab.Grid
set_option maxRecDepth 100000
namespace Go.Ab.Grid
open Go Go.Ab
theorem parseL_append {head : Bool} : ∀ {l1 l2 : List (List UInt8)} {i : Nat} {st : PSt}, parseL head i st (l1 ++ l2) = (parseL head i st l1).bind fun st' => parseL head (i + l1.length) st' l2
  | [], l2, i, st => by simp [parseL]
  | w :: l1, l2, i, st => by
    rw [List.cons_append, parseL, parseL]
    cases parseW head i st w with
    | none => rfl
    | some st' =>
      simp only
      rw [parseL_append, List.length_cons, show i + 1 + l1.length = i + (l1.length + 1) by omega]
theorem parseA_append : ∀ {l1 l2 : List (List UInt8)} {st : PSt}, parseA false st (l1 ++ l2) = (parseA false st l1).bind fun st' => parseA false st' l2
  | [], l2, st => by simp [parseA]
  | w :: l1, l2, st => by
    rw [List.cons_append, parseA, parseA]
    cases parseL false 0 st (Lib.fieldsD w) with
    | none => rfl
    | some st' =>
      simp only
      rw [parseA_append]
theorem take_two {zs : List Int} {k : Nat} (h : k + 2 ≤ zs.length) : zs.take k ++ [gi zs k, gi zs (k + 1)] = zs.take (k + 2) := by
  have g : ∀ j, j < zs.length → zs[j]? = some (gi zs j) := fun j hj => by simp [gi, List.getD, hj]
  rw [show k + 2 = k + 1 + 1 from rfl, List.take_add_one, List.take_add_one, g k (by omega), g (k + 1) (by omega)]
  simp
theorem join_mem {ws : List (List UInt8)} {b : UInt8} (hb : b ∈ Lib.join ws [32]) : b = 32 ∨ ∃ w, w ∈ ws ∧ b ∈ w := by
  cases ws with
  | nil => rw [Lib.join_nil] at hb; cases hb
  | cons x l =>
    rw [Lib.join_cons] at hb
    rcases List.mem_append.1 hb with h | h
    · exact .inr ⟨x, List.mem_cons_self .., h⟩
    · unfold Lib.joinTail at h
      obtain ⟨y, hy, hby⟩ := List.mem_flatten.1 h
      obtain ⟨z, hz, rfl⟩ := List.mem_map.1 hy
      rcases List.mem_append.1 hby with h1 | h1
      · exact .inl (List.mem_singleton.1 h1)
      · exact .inr ⟨z, List.mem_cons_of_mem _ hz, h1⟩
theorem line_ok {ws : List (List UInt8)} (h : ∀ w, w ∈ ws → ∀ b, b ∈ w → wb b) : ∃ l, lineL ws = l ++ [10] ∧ (10 : UInt8) ∉ l := by
  refine ⟨_, rfl, fun hb => ?_⟩
  rcases join_mem hb with h1 | ⟨w, hw, hbw⟩
  · cases h1
  · have := (h w hw _ hbw).1
    have e : (10 : UInt8).toNat = 10 := rfl
    omega
theorem itoa_wb {n : Int} (h : -1200000 ≤ n ∧ n ≤ 1200000) {b : UInt8} (hb : b ∈ itoaA n) : wb b := by
  have := itoa_b h hb
  unfold wb
  omega
theorem word_wb {a b : Int} (ha : -1200000 ≤ a ∧ a ≤ 1200000) (hb : -1200000 ≤ b ∧ b ≤ 1200000) : wordL a b ≠ [] ∧ ∀ x, x ∈ wordL a b → wb x := by
  unfold wordL
  split
  · exact ⟨itoa_ne ha, fun x hx => itoa_wb ha hx⟩
  · refine ⟨by simp, fun x hx => ?_⟩
    rcases List.mem_append.1 hx with h | h
    · rcases List.mem_append.1 h with h1 | h1
      · exact itoa_wb ha h1
      · have e : (46 : UInt8).toNat = 46 := rfl
        have : x = 46 := by simpa using h1
        subst this
        unfold wb
        omega
    · exact itoa_wb hb h
section
variable {w h s : Int} {m wd ht : Nat} {zs : List Int}
theorem row_wb (hz : ∀ i, -1200000 ≤ gi zs i ∧ gi zs i ≤ 1200000) {y i : Nat} : ∀ x, x ∈ rowW wd zs y i → x ≠ [] ∧ ∀ b, b ∈ x → wb b := fun x hx => by
  obtain ⟨j, _, rfl⟩ := rowW_mem hx
  exact word_wb (hz _) (hz _)
theorem rowW_ne {y i : Nat} (hi : 0 < i) : rowW wd zs y i ≠ [] := fun h => by
  have := rowW_len (w := wd) (y := y) (zs := zs) (i := i)
  rw [h] at this
  simp at this
  omega
theorem head_wb (hw : -1200000 ≤ w ∧ w ≤ 1200000) (hh : -1200000 ≤ h ∧ h ≤ 1200000) (hs : -1200000 ≤ s ∧ s ≤ 1200000) : ∀ x, x ∈ [[103, 114, 105, 100], itoaA w, itoaA h, itoaA s] → x ≠ [] ∧ ∀ b, b ∈ x → wb b := fun x hx => by
  simp only [List.mem_cons, List.not_mem_nil, or_false] at hx
  rcases hx with rfl | rfl | rfl | rfl
  · refine ⟨by simp, fun b hb => ?_⟩
    simp only [List.mem_cons, List.not_mem_nil, or_false] at hb
    unfold wb
    rcases hb with rfl | rfl | rfl | rfl <;> decide
  · exact ⟨itoa_ne hw, fun b hb => itoa_wb hw hb⟩
  · exact ⟨itoa_ne hh, fun b hb => itoa_wb hh hb⟩
  · exact ⟨itoa_ne hs, fun b hb => itoa_wb hs hb⟩
def rowsLs (wd : Nat) (zs : List Int) (n : Nat) : List (List UInt8) := (List.range n).map fun y => lineL (rowW wd zs y wd)
theorem rowsL_flat : ∀ {n : Nat}, rowsL wd zs n = (rowsLs wd zs n).flatten
  | 0 => rfl
  | n + 1 => by
    rw [rowsL, rowsL_flat, rowsLs, rowsLs, List.range_succ, List.map_append, List.flatten_append]
    simp
theorem parse_row (hz : ∀ i, -1200000 ≤ gi zs i ∧ gi zs i ≤ 1200000) {y : Nat} : ∀ {i : Nat}, y * wd * 2 + i * 2 ≤ zs.length → parseL false 0 ⟨w, h, s, zs.take (y * wd * 2)⟩ (rowW wd zs y i) = some ⟨w, h, s, zs.take (y * wd * 2 + i * 2)⟩
  | 0, _ => by simp [rowW, parseL]
  | i + 1, hi => by
    rw [rowW, parseL_append, parse_row hz (by omega)]
    simp only [Option.bind_some, parseL]
    rw [parse_word (hz _) (hz _)]
    simp only
    rw [take_two (by omega), show y * wd * 2 + i * 2 + 2 = y * wd * 2 + (i + 1) * 2 by omega]
theorem parse_rows (hz : ∀ i, -1200000 ≤ gi zs i ∧ gi zs i ≤ 1200000) (hw : 0 < wd) : ∀ {n : Nat}, n * wd * 2 ≤ zs.length → parseA false ⟨w, h, s, []⟩ (rowsLs wd zs n) = some ⟨w, h, s, zs.take (n * wd * 2)⟩
  | 0, _ => by simp [rowsLs, parseA]
  | n + 1, hn => by
    have e : (n + 1) * wd * 2 = n * wd * 2 + wd * 2 := by rw [Nat.add_mul]; omega
    rw [e] at hn ⊢
    have er : rowsLs wd zs (n + 1) = rowsLs wd zs n ++ [lineL (rowW wd zs n wd)] := by
      unfold rowsLs
      rw [List.range_succ, List.map_append]
      rfl
    rw [er, parseA_append, parse_rows hz hw (by omega)]
    simp only [Option.bind_some, parseA]
    rw [fields_line (rowW_ne hw) (row_wb hz), parse_row hz hn]
theorem read_text (hE : gridE w h s m zs = 0) (hl : zs.length = m * 2) : readP (textL w h s zs) = some ⟨w, h, s, zs⟩ := by
  obtain ⟨hw, hh, hmw, hv⟩ := gridE_parts hE
  have hs := gridE_s hE
  obtain ⟨wd, rfl⟩ : ∃ wd : Nat, w = (wd : Int) := ⟨w.toNat, by omega⟩
  obtain ⟨ht, rfl⟩ : ∃ ht : Nat, h = (ht : Int) := ⟨h.toNat, by omega⟩
  have hm1 : m = ht * wd := by
    have : (m : Int) = ((ht * wd : Nat) : Int) := by rw [hmw, Int.natCast_mul, Int.mul_comm]
    omega
  have hz : ∀ i, -1200000 ≤ gi zs i ∧ gi zs i ≤ 1200000 := fun i => by
    by_cases hi : i < m * 2
    · obtain ⟨j, hj⟩ : ∃ j, i = j * 2 ∨ i = j * 2 + 1 := ⟨i / 2, by omega⟩
      rcases hj with rfl | rfl
      · have := hv j (by omega); omega
      · have := hv j (by omega); omega
    · have : gi zs i = 0 := by simp [gi, List.getD, show zs.length ≤ i by omega]
      omega
  have hwb := head_wb (w := (wd : Int)) (h := (ht : Int)) (s := s) (by omega) (by omega) (by omega)
  have eT : textL (wd : Int) (ht : Int) s zs = (headL wd ht s :: rowsLs wd zs ht).flatten := by
    unfold textL
    rw [Int.toNat_natCast, Int.toNat_natCast, rowsL_flat]
    simp
  unfold readP
  rw [eT, linesF_flat (headL wd ht s :: rowsLs wd zs ht) (fun L hL => ?_) (Nat.le_refl _)]
  · have eh : Lib.fieldsD (headL wd ht s) = [[103, 114, 105, 100], itoaA wd, itoaA ht, itoaA s] := fields_line (by simp) hwb
    have g0 : parseW true 0 ⟨0, 0, 0, []⟩ [103, 114, 105, 100] = some ⟨0, 0, 0, []⟩ := by
      unfold parseW
      rw [if_pos ⟨rfl, rfl, rfl⟩]
    have g1 := parse_num (st := ⟨0, 0, 0, []⟩) (i := 1) (n := (wd : Int)) (by omega) (by omega)
    have g2 := parse_num (st := ⟨(wd : Int), 0, 0, []⟩) (i := 2) (n := (ht : Int)) (by omega) (by omega)
    have g3 := parse_num (st := ⟨(wd : Int), (ht : Int), 0, []⟩) (i := 3) (n := s) (by omega) (by omega)
    have eL : parseL true 0 ⟨0, 0, 0, []⟩ (Lib.fieldsD (headL wd ht s)) = some ⟨(wd : Int), (ht : Int), s, []⟩ := by
      rw [eh]
      simp only [parseL]
      rw [g0]
      simp only [Nat.zero_add]
      rw [g1]
      simp only [if_true]
      rw [show (1 : Nat) + 1 = 2 from rfl, g2]
      simp only [show ¬ (2 : Nat) = 1 by decide, if_false, if_true]
      rw [show (2 : Nat) + 1 = 3 from rfl, g3]
      simp
    rw [parseA, eL]
    simp only
    rw [parse_rows hz (by omega) (by rw [hl, hm1]; exact Nat.le_refl _)]
    rw [List.take_of_length_le (by rw [hl, hm1]; exact Nat.le_refl _)]
  · rcases List.mem_cons.1 hL with rfl | h1
    · exact line_ok fun w hw => (hwb w hw).2
    · unfold rowsLs at h1
      obtain ⟨y, _, rfl⟩ := List.mem_map.1 h1
      exact line_ok fun w hw => (row_wb hz w hw).2
theorem text_len (hE : gridE w h s m zs = 0) : (textL w h s zs).length ≤ 30000 := by
  obtain ⟨hw, hh, _, _⟩ := gridE_parts hE
  have a := headL_len (w := w) (h := h) (s := s)
  have b := rowsL_len (w := w.toNat) (zs := zs) (by omega) (y := h.toNat)
  unfold textL
  rw [List.length_append]
  have : h.toNat ≤ 24 := by omega
  omega
end
end Go.Ab.Grid
set_option maxRecDepth 100000
namespace Go.Ab.Grid
open Go Go.Ab
def pa288 : ACode := (.ops [
oP 2 (.box (.t 0)),
oP 4 (.move (.k (.bool false)))])
def pb288 : ACode := (.seq
 (.ops [
oF 11 2 3,
oL 12 11,
oP 13 (.len (.t 12)),
oC 14 .gtr 13 600,
oM 15 14,
oN 16 15 false 1,
oQ 17 15 false (.lenT (.t 16)),
oQ 18 15 false (.bin .gtr (.t 17) (oK 3000)),
oP 19 (.pick (.t 15) (.k (.bool true)) (.t 18))])
 (.cond (.t 19)
 (.seq
 (.ops [
oA 20 289 [] false,
oM 4 20])
 .ret)
 .skip))
def pc288 : ACode := (.ops [
oD 22 2 4,
oA 23 306 [.t 22] false,
oM 21 23,
oX 24 21 0,
oX 25 21 1,
oM 5 24,
oM 6 25])
def pd288 : ACode := (.seq
 (.ops [
oM 26 6,
oD 27 2 4,
oA 28 37 [.t 27] false,
oB 29 .neq 26 28])
 (.cond (.t 29)
 (.seq
 (.ops [
oP 4 (.move (.k (.bool false)))])
 .ret)
 .skip))
def pe288 : ACode := (.seq
 (.ops [
oM 30 6,
oC 31 .eql 30 0])
 (.cond (.t 31)
 (.seq
 (.ops [
oM 33 5,
oA 34 308 [.t 33] false,
oM 32 34,
oX 35 32 0,
oX 36 32 1,
oP 7 (.alloc [.int .i64 0, .int .i64 0, .int .i64 0, .slice none 0 0]),
oT 7 35 4,
oM 8 36])
 (.seq
 (.ops [
oM 37 8,
oC 38 .neq 37 0,
oM 39 38,
oQ 40 39 false (.load (.t 7) (some 4)),
oQ 41 39 false (.load (.t 2) (some 4)),
oQ 42 39 false (.call (.k (.func (.func 301) ⟨[]⟩ ⟨[]⟩)) [.t 40, .t 41] false),
oQ 43 39 false (.not (.t 42)),
oP 44 (.pick (.t 39) (.k (.bool true)) (.t 43))])
 (.cond (.t 44)
 (.seq
 (.ops [
oP 4 (.move (.k (.bool false)))])
 .ret)
 .skip)))
 .skip))
def pf288 : ACode := (.ops [
oM 46 1,
oA 47 308 [.t 46] false,
oM 45 47,
oX 48 45 0,
oX 49 45 1,
oP 9 (.alloc [.int .i64 0, .int .i64 0, .int .i64 0, .slice none 0 0]),
oT 9 48 4,
oM 6 49])
def pg288 : ACode := (.seq
 (.ops [
oM 50 6,
oC 51 .neq 50 0])
 (.cond (.t 51)
 (.seq
 (.ops [
oM 52 6,
oC 53 .eql 52 7,
oM 54 53,
oQ 55 54 true (.call (.k (.func (.func 289) ⟨[]⟩ ⟨[]⟩)) [] false),
oP 56 (.pick (.t 54) (.t 55) (.k (.bool false))),
oM 4 56])
 .ret)
 .skip))
def ph288 : ACode := (.ops [
oD 58 9 4,
oA 59 306 [.t 58] false,
oM 57 59,
oX 60 57 0,
oX 61 57 1,
oM 5 60,
oM 10 61])
def pi288 : ACode := (.seq
 (.ops [
oM 62 10,
oC 63 .eql 62 0,
oM 64 63,
oN 65 64 true 5,
oN 66 64 true 1,
oQ 67 64 true (.strOp .eql (.t 65) (.t 66)),
oP 68 (.pick (.t 64) (.t 67) (.k (.bool false))),
oM 69 68,
oQ 70 69 true (.call (.k (.func (.func 289) ⟨[]⟩ ⟨[]⟩)) [] false),
oP 71 (.pick (.t 69) (.t 70) (.k (.bool false))),
oM 4 71])
 .ret)
theorem AP288 : AP 288 = some (.fn 72 [.tmp 4] (.seq pa288 (.seq pb288 (.seq pc288 (.seq pd288 (.seq pe288 (.seq pf288 (.seq pg288 (.seq ph288 pi288))))))))) := rfl
section
variable {g : Nat} {rd : Option Nat} {T : List Value} {D : List Nat} {A : Hp} {Q : Ex → St → Prop} {V : Value → Hp → Prop}
theorem GAt.shp {y : G} {vg : Value} (hy : GAt A y vg) : ∃ p c, vg = gridV y.w y.h y.s (.slice p y.m c) ∧ RdS A 2 y.m (ints y.zs) (.slice p y.m c) := by
  obtain ⟨sl, rfl, rs⟩ := hy
  obtain ⟨p, c, rfl⟩ := rs.isSlice'
  exact ⟨p, c, rfl, rs⟩
theorem rest288 {X2 : Nat} {l : List UInt8} {T : List Value} (hl : l.length ≤ 3000) (hg : g ≤ A.n) (t1 : tget T 1 = strV l) (hV : ∀ A', V (.bool true) A') :
    W AP KL g none pf288 ⟨T, [], A⟩ (SeqQ AP KL g none (.seq pg288 (.seq ph288 pi288)) (FinQ [.tmp 4] V)) := by
  simp (disch := as_aux_lemma => first | omega | simp only [hDs] <;> omega | simp [isCell]) [hRs, takeMarks, resA, resAll, resOne, Value.cells, pf288, t1]
  refine w308 (l := l) (by omega) hg fun A1 vg e e1 hR => ?_
  have n1 := e1.1
  rcases hR with ⟨h1, _⟩ | ⟨_, ⟨st, hp, hE, ht, rfl, hz, hG⟩ | ⟨_, rfl, hG⟩⟩
  · omega
  · obtain ⟨p, c, rfl, r⟩ := hG.shp
    simp (disch := as_aux_lemma => first | omega | simp only [hDs] <;> omega | simp [isCell]) [hRs, takeMarks, resA, resAll, resOne, Value.cells, gridV, storeB_cells, setRange_all, set_push_eq, fillA]
    obtain ⟨C, hC⟩ : ∃ C, C = A1.push (.cells [.int .i64 st.G.w, .int .i64 st.G.h, .int .i64 st.G.s, .slice p st.G.m c] false) := ⟨_, rfl⟩
    rw [← hC]
    have eC : Ext' A1 C := by rw [hC]; exact Ext'.push _ _
    have nC : C.n = A1.n + 1 := by rw [hC]; rfl
    have c9 : C.get A1.n = some (.cells [.int .i64 st.G.w, .int .i64 st.G.h, .int .i64 st.G.s, .slice p st.G.m c] false) := by rw [hC]; exact get_push_new
    have hm : st.G.m < 1000000 := by show st.zs.length / 2 < 1000000; omega
    simp (disch := as_aux_lemma => first | omega | simp only [hDs] <;> omega | simp [isCell]) [hRs, takeMarks, resA, resAll, resOne, Value.cells, pg288, ph288, c9]
    refine w306 (w := st.G.w) (h := st.G.h) (s := st.G.s) (m := st.G.m) (zs := st.G.zs) hm (eC.rdS r) (by omega) fun A2 t e' e2 hW => ?_
    rcases hW with ⟨h1, _⟩ | ⟨_, rfl, rfl⟩
    · exact absurd hE h1
    · have ht' : textL st.G.w st.G.h st.G.s st.G.zs = l := ht
      simp (disch := as_aux_lemma => first | omega | simp only [hDs] <;> omega | simp [isCell]) [hRs, takeMarks, resA, resAll, resOne, Value.cells, pi288, t1, strEql, ht']
      exact hV _
  · obtain ⟨p, c, rfl, r⟩ := hG.shp
    simp (disch := as_aux_lemma => first | omega | simp only [hDs] <;> omega | simp [isCell]) [hRs, takeMarks, resA, resAll, resOne, Value.cells, gridV, storeB_cells, setRange_all, set_push_eq, fillA, pg288]
    exact hV _
theorem law288 {x : G} {vx : Value} {l : List UInt8} (hx : GAt A x vx) (hg : g ≤ A.n) (hV : ∀ A', V (.bool true) A') : WF AP KL g 288 [vx, strV l] A V := by
  obtain ⟨sx, rfl, rx⟩ := hx
  rw [WF_body (show KL 288 = none from rfl) AP288]
  have hsz : (⟨⟨l⟩⟩ : ByteArray).size = l.length := rfl
  have hlx := rx.len
  obtain ⟨B, hB⟩ : ∃ B, B = A.push (.cells [.int .i64 x.w, .int .i64 x.h, .int .i64 x.s, sx] false) := ⟨_, rfl⟩
  have eB : Ext' A B := by rw [hB]; exact Ext'.push _ _
  have nB : B.n = A.n + 1 := by rw [hB]; rfl
  have b2 : B.get A.n = some (.cells [.int .i64 x.w, .int .i64 x.h, .int .i64 x.s, sx] false) := by rw [hB]; exact get_push_new
  by_cases h6 : (600 : Int) < x.m
  · simp (disch := as_aux_lemma => first | omega | simp only [hDs] <;> omega | simp [isCell]) [hRs, takeMarks, resA, resAll, resOne, Value.cells, pa288, pb288, gridV, ← hB, b2, hlx, h6]
    exact hV _
  · by_cases h3 : (3000 : Int) < l.length
    · simp (disch := as_aux_lemma => first | omega | simp only [hDs] <;> omega | simp [isCell]) [hRs, takeMarks, resA, resAll, resOne, Value.cells, pa288, pb288, gridV, ← hB, b2, hlx, h6, lenTV, goInt, hsz, h3, show 3000 < l.length by omega]
      exact hV _
    · simp (disch := as_aux_lemma => first | omega | simp only [hDs] <;> omega | simp [isCell]) [hRs, takeMarks, resA, resAll, resOne, Value.cells, pa288, pb288, gridV, ← hB, b2, hlx, h6, lenTV, goInt, hsz, h3, show ¬ 3000 < l.length by omega, pc288]
      refine w306 (w := x.w) (h := x.h) (s := x.s) (m := x.m) (zs := x.zs) (by omega) (eB.rdS rx) (by omega) fun A1 t e e1 hW => ?_
      have n1 := e1.1
      have he : e = x.E := by
        rcases hW with ⟨_, _, h⟩ | ⟨h1, _, h⟩
        · exact h
        · rw [h]; exact h1.symm
      simp (disch := as_aux_lemma => first | omega | simp only [hDs] <;> omega | simp [isCell]) [hRs, takeMarks, resA, resAll, resOne, Value.cells, pd288, e1.get b2]
      refine w37 (w := x.w) (h := x.h) (s := x.s) (zs := x.zs) ((eB.trans e1).rdS rx) (by omega) fun A2 e2 => ?_
      have n2 := e2.1
      have heE : e = gridE x.w x.h x.s x.m x.zs := he
      have f2 := (eB.trans e1).trans e2
      rcases hW with ⟨hne, rfl, hee⟩ | ⟨hE, rfl, rfl⟩
      · have hne' : ¬ e = 0 := by rw [hee]; exact hne
        simp (disch := as_aux_lemma => first | omega | simp only [hDs] <;> omega | simp [isCell]) [hRs, takeMarks, resA, resAll, resOne, Value.cells, ← heE, pe288, hne']
        refine rest288 (X2 := A.n) (l := l) (by omega) (by omega) ?_ hV
        simp
      · have htl := text_len (w := x.w) (h := x.h) (s := x.s) (m := x.m) (zs := x.zs) hE
        have hzl : x.zs.length = x.m * 2 := by have := rx.1; simpa using this
        have hrt := read_text hE hzl
        have hmm : x.zs.length / 2 = x.m := by omega
        simp (disch := as_aux_lemma => first | omega | simp only [hDs] <;> omega | simp [isCell]) [hRs, takeMarks, resA, resAll, resOne, Value.cells, ← heE, pe288]
        refine w308 (l := textL x.w x.h x.s x.zs) (by omega) (by omega) fun A3 vg e' e3 hR => ?_
        have n3 := e3.1
        rcases hR with ⟨h1, _⟩ | ⟨_, ⟨st, hp, hE', ht, rfl, hz, hG⟩ | ⟨hno, _⟩⟩
        · omega
        · rw [hrt] at hp
          obtain rfl := Option.some.inj hp
          obtain ⟨p, c, rfl, r⟩ := hG.shp
          simp (disch := as_aux_lemma => first | omega | simp only [hDs] <;> omega | simp [isCell]) [hRs, takeMarks, resA, resAll, resOne, Value.cells, gridV, storeB_cells, setRange_all, set_push_eq, fillA, ((e1.trans e2).trans e3).get b2]
          obtain ⟨C, hC⟩ : ∃ C, C = A3.push (.cells [.int .i64 x.w, .int .i64 x.h, .int .i64 x.s, .slice p (x.zs.length / 2) c] false) := ⟨_, rfl⟩
          have hC' : C = A3.push (.cells [.int .i64 (PSt.G ⟨x.w, x.h, x.s, x.zs⟩).w, .int .i64 (PSt.G ⟨x.w, x.h, x.s, x.zs⟩).h, .int .i64 (PSt.G ⟨x.w, x.h, x.s, x.zs⟩).s, .slice p (PSt.G ⟨x.w, x.h, x.s, x.zs⟩).m c] false) := hC
          have eC : Ext' A3 C := by rw [hC]; exact Ext'.push _ _
          have nC : C.n = A3.n + 1 := by rw [hC]; rfl
          have c7 : C.get A3.n = some (.cells [.int .i64 x.w, .int .i64 x.h, .int .i64 x.s, .slice p (x.zs.length / 2) c] false) := by rw [hC]; exact get_push_new
          rw [← hC']
          refine w301 (x := ⟨x.w, x.h, x.s, x.zs.length / 2, x.zs⟩) (y := x) ⟨_, rfl, eC.rdS r⟩ ⟨_, rfl, (f2.trans (e3.trans eC)).rdS rx⟩ (by show x.zs.length / 2 < 1000000; omega) (by rw [hmm]) fun A4 e4 => ?_
          have n4 := e4.1
          simp (disch := as_aux_lemma => first | omega | simp only [hDs] <;> omega | simp [isCell]) [hRs, takeMarks, resA, resAll, resOne, Value.cells]
          refine rest288 (X2 := A.n) (l := l) (by omega) (by omega) ?_ hV
          simp
        · exact absurd rfl (hno _ hrt (by show gridE x.w x.h x.s (x.zs.length / 2) x.zs = 0; rw [hmm]; exact hE))
end
end Go.Ab.Grid
set_option maxRecDepth 100000
namespace Go.Ab.Grid
open Go Go.Ab
@[simp] theorem GuardW_un {AP : Nat → Option AFunc} {K : Nat → Option Spec} {g : Nat} {dst : Option Nat} {op : AOp} {l : List AOper} {T : List Value} {A : Hp} {R : List Value → Hp → Prop} {b : Bool} :
    GuardW AP K g dst op l T A R b undef = WO AP K g l (putA dst T undef) A R := rfl
section
variable {g : Nat} {rd : Option Nat} {T : List Value} {D : List Nat} {A : Hp} {Q : Ex → St → Prop} {V : Value → Hp → Prop}
end
end Go.Ab.Grid
set_option maxRecDepth 100000
namespace Go.Ab.Grid
open Go Go.Ab
section
variable {g : Nat} {rd : Option Nat} {T : List Value} {D : List Nat} {A : Hp} {Q : Ex → St → Prop} {V : Value → Hp → Prop}
end
end Go.Ab.Grid
set_option maxRecDepth 100000
namespace Go.Ab.Grid
open Go Go.Ab
section
variable {g : Nat} {rd : Option Nat} {T : List Value} {D : List Nat} {A : Hp} {Q : Ex → St → Prop} {V : Value → Hp → Prop}
end
end Go.Ab.Grid
set_option maxRecDepth 100000
namespace Go.Ab.Grid
open Go Go.Ab
section
variable {g : Nat} {rd : Option Nat} {T : List Value} {D : List Nat} {A : Hp} {Q : Ex → St → Prop} {V : Value → Hp → Prop}
end
end Go.Ab.Grid
set_option maxRecDepth 100000
namespace Go.Ab.Grid
open Go Go.Ab
structure Land where
  wide : Int
  high : Int
  nl : Nat
  low : List Int
  nm : Nat
  more : List Int
def Land.lo (L : Land) (i : Nat) : Int := if 0 < L.nl then gi L.low (i % L.nl) else 0
def Land.hi (L : Land) (i : Nat) : Int := L.lo i + if 0 < L.nm then gi L.more (i % L.nm) else 0
def Land.w (L : Land) : Int := 1 + L.wide.tmod 5
def Land.h (L : Land) : Int := 1 + L.high.tmod 5
def Land.n (L : Land) : Nat := (L.w * L.h).toNat
def Land.zs (L : Land) : Nat → List Int
  | 0 => []
  | i + 1 => L.zs i ++ [L.lo i, L.hi i]
def Land.G (L : Land) : G := ⟨L.w, L.h, 100, L.n, L.zs L.n⟩
structure Land.Ok (L : Land) : Prop where
  wide : 0 ≤ L.wide ∧ L.wide ≤ 255
  high : 0 ≤ L.high ∧ L.high ≤ 255
  low : ∀ i, -32768 ≤ gi L.low i ∧ gi L.low i ≤ 32767
  more : ∀ i, 0 ≤ gi L.more i ∧ gi L.more i ≤ 255
  nl : L.low.length = L.nl ∧ L.nl ≤ 9223372036854775807
  nm : L.more.length = L.nm ∧ L.nm ≤ 9223372036854775807
def Land.V (L : Land) (sl sm : Value) : Value := .agg ⟨[.int .u8 L.wide, .int .u8 L.high, sl, sm]⟩
theorem Land.Ok.w {L : Land} (h : L.Ok) : 1 ≤ L.w ∧ L.w ≤ 5 := by
  have h1 := Int.tmod_nonneg 5 h.wide.1
  have h2 := Int.tmod_lt_of_pos L.wide (show (0 : Int) < 5 by decide)
  unfold Land.w; omega
theorem Land.Ok.h {L : Land} (h : L.Ok) : 1 ≤ L.h ∧ L.h ≤ 5 := by
  have h1 := Int.tmod_nonneg 5 h.high.1
  have h2 := Int.tmod_lt_of_pos L.high (show (0 : Int) < 5 by decide)
  unfold Land.h; omega
theorem Land.Ok.n {L : Land} (h : L.Ok) : (L.n : Int) = L.w * L.h ∧ 1 ≤ L.n ∧ L.n ≤ 25 := by
  have a := Int.mul_le_mul h.w.1 h.h.1 (by decide) (by have := h.w; omega)
  have b := Int.mul_le_mul h.w.2 h.h.2 (by have := h.h; omega) (by decide)
  unfold Land.n; omega
section
variable {g : Nat} {rd : Option Nat} {T : List Value} {D : List Nat} {A : Hp} {Q : Ex → St → Prop} {V : Value → Hp → Prop}
end
end Go.Ab.Grid
set_option maxRecDepth 100000
namespace Go.Ab.Grid
open Go Go.Ab
theorem maxLen_lt : maxLen ≤ 9223372036854775807 := by decide
end Go.Ab.Grid
set_option maxRecDepth 100000
namespace Go.Ab.Grid
open Go Go.Ab
theorem sh_str {rows : List (List Value)} {cs : List Value} (h : Sh rows .str cs) : ∃ l : List UInt8, mkV .str cs = strV l ∧ l.length ≤ 9223372036854775807 := by
  obtain ⟨s, rfl, hs⟩ := h
  refine ⟨s.data.toList, ?_, ?_⟩
  · show Value.string s = _
    rw [show s = ⟨⟨s.data.toList⟩⟩ from (bytes_back s).symm]
  · have := maxLen_lt
    have e : s.size = s.data.toList.length := Array.length_toList.symm
    omega
end Go.Ab.Grid
set_option maxRecDepth 100000
namespace Go.Ab.Grid
open Go Go.Ab Go.Proofs Go.Shelf Go.ChangeShapes Go.WideShapes Go.ChangeAt Go.RowKit Go.Proofs.YtmppgcknmmmioaaGreatDoor
theorem isFn' (f nt : Nat) (rs : List ARes) (c : ACode) {W0 : Array Obj} (h : AP f = some (.fn nt rs c)) : ∃ nt rs body, (E W0).AP f = some (.fn nt rs body) := ⟨nt, rs, c, h⟩
theorem own : ownKnob Tryz.prog.godebug = none := by kernel_rfl
theorem laidOut : laidOutB Tryz.prog = true := by kernel_rfl
abbrev laidL : List (String × DataW Unit) := Rows.gridNearsRow.laid
theorem white {w : World} : Lib.VarReads Tryz.prog w "unicode.White_Space" Lib.whiteData → Lib.WhiteTab 1 w := fun h =>
  whiteTab_of_reads (ρ := Tryz.lays157_ren) { Tryz.lays157 with } { n6 := by kernel_rfl, y6 := by kernel_rfl, c3 := by kernel_rfl, c49 := by kernel_rfl, c193 := by kernel_rfl, c194 := by kernel_rfl, c196 := by kernel_rfl, c198 := by kernel_rfl } h
theorem var_heap {w : World} {n : String} {g : Nat} {cs : Array Value} (hg : Tryz.prog.globalNamed n = some g) (h : w.var? Tryz.prog n = some cs) : ∃ t fr, w.heap[g]? = some (.cells cs t fr) := by
  unfold World.var? at h
  rw [hg] at h
  simp only [Option.bind_some] at h
  split at h
  · rename_i cs' t fr he; cases h; exact ⟨t, fr, he⟩
  · cases h
theorem laidW_of {w : World} (hm : laidMet Tryz.prog laidL w) (hs : w.ShapedOpen Tryz.prog) : LaidW w := by
  have hp := Lib.laidMet.reads hm (d := Rows.laid_internal_strconv_uint64pow10) (List.mem_cons_of_mem _ (List.mem_cons_of_mem _ List.mem_cons_self))
  have hr := Lib.laidMet.reads hm (d := Rows.laid_strconv_ErrRange) (List.mem_cons_of_mem _ (List.mem_cons_of_mem _ (List.mem_cons_of_mem _ List.mem_cons_self)))
  have hy := Lib.laidMet.reads hm (d := Rows.laid_strconv_ErrSyntax) (List.mem_cons_of_mem _ (List.mem_cons_of_mem _ (List.mem_cons_of_mem _ (List.mem_cons_of_mem _ List.mem_cons_self))))
  have hw := Lib.laidMet.reads hm (d := Rows.laid_unicode_White_Space) (List.mem_cons_of_mem _ (List.mem_cons_of_mem _ (List.mem_cons_of_mem _ (List.mem_cons_of_mem _ (List.mem_cons_of_mem _ List.mem_cons_self)))))
  have ha := Lib.laidMet.reads hm (d := Rows.laid_strings_asciiSpace) (List.mem_cons_of_mem _ (List.mem_cons_of_mem _ (List.mem_cons_of_mem _ (List.mem_cons_of_mem _ (List.mem_cons_of_mem _ (List.mem_cons_of_mem _ List.mem_cons_self))))))
  have iface : ∀ {n : String} {nm : String} {d : DataW Unit} {g : Nat} {t : TypeId} {ms : Array (String × TypeId)}, Tryz.prog.globalNamed n = some g → (Tryz.prog.globals[g]?).map (·.type) = some t → Tryz.prog.underlying t = some (.interface ms) →
      Lib.VarReads Tryz.prog w n (.iface nm d) → ∃ ev, w.cell? ⟨g, 0, none⟩ = some ev ∧ (ev = .nilIface ∨ ∃ te pe, ev = .iface te pe) := by
    intro n nm d g t ms hg ht hu h
    obtain ⟨g', t', cs, fuel, p, hg', ht', hv, hd⟩ := h
    obtain rfl := Option.some.inj (hg.symm.trans hg')
    obtain rfl := Option.some.inj (ht.symm.trans ht')
    obtain ⟨_, u, v, hcs, _, _⟩ := iface_of_trod hu hd
    have := World.var?_cell hg hv 0
    rw [← Array.getElem?_toList, hcs] at this
    exact ⟨_, this, .inr ⟨u, v, rfl⟩⟩
  have tab : ∀ {n : String} {k : IntKind} {zs : List Int} {g : Nat} {t e : TypeId} {N : Nat}, Tryz.prog.globalNamed n = some g → (Tryz.prog.globals[g]?).map (·.type) = some t → Tryz.prog.underlying t = some (.array N e) →
      Tryz.prog.underlying e = some (.int k) → Tryz.prog.cellsOf e = 1 → Tryz.prog.cellsOf t = N → Lib.VarReads Tryz.prog w n (Lib.tabData k zs) → ∃ t fr, w.heap[g]? = some (.cells (zs.map fun z => Value.int k z).toArray t fr) := by
    intro n k zs g t e N hg ht hu he hce hct h
    obtain ⟨g', t', cs, fuel, p, hg', ht', hv, hd⟩ := h
    obtain rfl := Option.some.inj (hg.symm.trans hg')
    obtain rfl := Option.some.inj (ht.symm.trans ht')
    have hcs := Lib.cells_of_tab hu he hce hct hd
    obtain ⟨t, fr, h⟩ := var_heap hg hv
    exact ⟨t, fr, by rw [h, ← hcs]⟩
  refine ⟨?_, ?_, ?_, ?_, ?_, white hw⟩
  · exact cell_of_shapedOpen_int (zero := #[.int .i64 0]) (t := 3) hs (of_decide_eq_true (by kernel_rfl)) (by kernel_rfl) rfl (by kernel_rfl) (by kernel_rfl) Tryz.underlying3
  · exact iface (by kernel_rfl) (by kernel_rfl) Tryz.underlying122 hy
  · exact iface (by kernel_rfl) (by kernel_rfl) Tryz.underlying122 hr
  · exact tab (by kernel_rfl) (by kernel_rfl) Tryz.underlying207 (by kernel_rfl) (by kernel_rfl) (by kernel_rfl) ((show Rows.laid_internal_strconv_uint64pow10 = Lib.tabData .u64 Lib.pow10Tab by kernel_rfl) ▸ hp)
  · exact tab (by kernel_rfl) (by kernel_rfl) Tryz.underlying153 (by kernel_rfl) (by kernel_rfl) (by kernel_rfl) ((show Rows.laid_strings_asciiSpace = Lib.tabData .u8 Lib.asciiSpaceTab by kernel_rfl) ▸ ha)
section
variable {H : Type} {enc : TypeId × Value → H} {os : Os}
theorem laid_all (args : Array Value) : laidMetH Tryz.prog laidL ((World.laidAll Tryz.prog os laidL).forCall (fun _ _ => 0) ⟨#[], args, []⟩).memory := by
  rw [MakeChecks.laidMetH_plain _ _ _ (by kernel_rfl)]
  exact laidMet_laidAll _ (by kernel_rfl) (by kernel_rfl)
theorem laid_shaped (args : Array Value) : ((World.laidAll Tryz.prog os laidL).forCall (fun _ _ => 0) ⟨#[], args, []⟩).Shaped Tryz.prog := World.shaped_of_ZipB (by kernel_rfl) (by kernel_rfl)
theorem returns_laid {f : FuncId} {fn : Func} {s : ChangeSpec} (started : os.Started) (noInit : Tryz.checked.prog.inits.idxOf? f = none) (hfn : Tryz.checked.prog.funcs[f]? = some fn) (args0 : Array Value)
    (hok : Input.okWideB Tryz.checked.prog ((World.laidAll Tryz.prog os laidL).forCall (fun _ _ => 0) ⟨#[], args0, []⟩) f ⟨#[], args0, []⟩ = true)
    (hpre : s.preB enc Tryz.checked.prog fn [] false ((World.laidAll Tryz.prog os laidL).forCall (fun _ _ => 0) ⟨#[], args0, []⟩).memory args0 8 = true)
    (hsz : s.sizedB enc Tryz.checked.prog fn false ((World.laidAll Tryz.prog os laidL).forCall (fun _ _ => 0) ⟨#[], args0, []⟩).memory args0 8 = true)
    (contract : ∀ (W : World) (base : Nat) (args : Array Value) (ds gs : List (DataW H)) (before : List MemPlace),
      (∀ (j : Nat) t v, fn.params[j]? = some t → args[j]? = some v → Value.okWide Tryz.prog W .any base t v) →
      DataW.Whole enc Tryz.prog fn.params.toList s.vars false W args.toList ds gs before → LaidW W →
      Calls Tryz.prog f args W fun e W' => ∃ v, e = .returned v ∧ s.post enc Tryz.prog fn false true false false W args v W') :
    ReturnsInHanded {} Tryz.checked os f .any (fun w args => (s.pre enc Tryz.checked.prog fn [] false w args ∧ laidMetH Tryz.checked.prog laidL w) ∧ sizedMet enc Tryz.checked.prog fn (OpenSpec.ofChange s) false w args)
      (s.post enc Tryz.checked.prog fn false true false false) := by
  refine returnsInHanded_of_calls (C := Tryz.checked) own started noInit
    (ChangeSpec.witness_shaped (enc := enc) (C := Tryz.checked) (os := os) (s := s) (X := fun w _ => laidMetH Tryz.prog laidL w) false (World.laidAll Tryz.prog os laidL) args0 8 (World.laidAll_os _ _ _) (laid_shaped args0) hok hpre hsz (laid_all args0)) ?_
  intro w tape i _ hsh _ hok hpre _
  obtain ⟨_, _, _, fn', hfn', _, _, _, _, hval⟩ := hok
  have e : fn' = fn := Option.some.inj (hfn'.symm.trans hfn)
  subst e
  obtain ⟨⟨⟨ds, gs, before, hw, _⟩, hx⟩, _⟩ := hpre
  have hw' := DataW.Whole.of_heap (w' := w.forCall tape i) (by rfl) hw
  have hx' : laidMet Tryz.prog laidL (w.forCall tape i) := by
    have hx1 : laidMetH Tryz.prog laidL (w.forCall tape i).memory := hx
    rw [MakeChecks.laidMetH_plain _ _ _ (by kernel_rfl)] at hx1
    exact hx1.of_heap (by rfl)
  refine (contract (w.forCall tape i) w.heap.size i.args ds gs before hval hw' (laidW_of hx' hsh)).mono fun e W' ⟨v, he, hp⟩ => ?_
  subst he
  exact ChangeSpec.post_blind hp
end
end Go.Ab.Grid
set_option maxRecDepth 100000
namespace Go.Ab.Grid
open Go Go.Ab
def tGrid : Ty := .pair (.int .i64) (.pair (.int .i64) (.pair (.int .i64) (.pair (.slice (.rep 2 (.int .i64))) .unit)))
theorem sh_grid {rows : List (List Value)} {cs : List Value} (h : Sh rows tGrid cs) :
    ∃ (w h s : Int) (m : Nat) (zs : List Int) (sl : Value), mkV tGrid cs = gridV w h s sl ∧ RdS (roHp rows) 2 m (ints zs) sl ∧ m ≤ maxLen ∧ (∀ z ∈ zs, -9223372036854775808 ≤ z ∧ z ≤ 9223372036854775807) := by
  obtain ⟨_, _, rfl, h1, ⟨_, _, rfl, h2, ⟨_, _, rfl, h3, ⟨_, _, rfl, h4, rfl⟩⟩⟩⟩ := h
  obtain ⟨a1, rfl, b1⟩ := sh_int h1
  obtain ⟨a2, rfl, b2⟩ := sh_int h2
  obtain ⟨a3, rfl, b3⟩ := sh_int h3
  obtain ⟨n, zs, sl, rfl, r, m, b⟩ := sh_slice_k (k := .i64) rfl h4
  exact ⟨a1, a2, a3, n, zs, sl, rfl, r, m, b⟩
end Go.Ab.Grid
