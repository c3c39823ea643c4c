/- The document's Read: the lines. -/
import Derived.Test.YtmppgcknmmmioaaGreatDoorZ15
import Derived.Lib.TrimAscii
import Derived.Test.YtmppgcknmmmioaaGreatDoorZ14
set_option linter.unusedSimpArgs false
set_option linter.unusedVariables false
set_option linter.unusedSectionVars false
set_option maxRecDepth 100000
namespace Go.Ab.Grid
open Go Go.Ab
theorem ofNat_dig {k : Nat} (h : k < 10) : (UInt8.ofNat (48 + k)).toNat = 48 + k := by
  rw [UInt8.toNat_ofNat']
  omega
theorem dec_dig : ∀ (u : Nat) {b : UInt8}, b ∈ Lib.decDigits u → 48 ≤ b.toNat ∧ b.toNat ≤ 57 := by
  intro u
  induction u using Nat.strongRecOn with
  | _ u ih =>
    intro b hb
    rw [Lib.decDigits] at hb
    split at hb
    · rw [List.mem_singleton] at hb
      subst hb
      rw [ofNat_dig (by omega)]; omega
    · rcases List.mem_append.1 hb with h | h
      · exact ih (u / 10) (by omega) h
      · rw [List.mem_singleton] at h
        subst h
        rw [ofNat_dig (by omega)]; omega
theorem dec_ne : ∀ (u : Nat), Lib.decDigits u ≠ [] := by
  intro u h
  rw [Lib.decDigits] at h
  split at h
  · cases h
  · simp at h
theorem parse_dec : ∀ (u : Nat) (r : List UInt8), u < 1000000000 → Lib.parseUint10 0 (Lib.decDigits u ++ r) = Lib.parseUint10 u r := by
  intro u
  induction u using Nat.strongRecOn with
  | _ u ih =>
    intro r hu
    rw [Lib.decDigits]
    split
    · rename_i h
      simp only [List.singleton_append, Lib.parseUint10]
      rw [ofNat_dig h, if_pos (by omega), if_neg (by omega), if_neg (by omega)]
      congr 1
      omega
    · rename_i h
      rw [List.append_assoc, ih (u / 10) (by omega) _ (by omega)]
      simp only [List.singleton_append, Lib.parseUint10]
      rw [ofNat_dig (by omega), if_pos (by omega), if_neg (by omega), if_neg (by omega)]
      congr 1
      omega
theorem mag_dec {u : Nat} (hu : u < 1000000000) : Lib.parseMag (Lib.decDigits u) = .ok u := by
  unfold Lib.parseMag
  rw [if_neg (dec_ne u)]
  have := parse_dec u [] hu
  rw [List.append_nil] at this
  rw [this]
  rfl
theorem atoi_itoa {n : Int} (h : -1200000 ≤ n ∧ n ≤ 1200000) : numV (itoaA n) = some n := by
  rw [itoaA_eq (by omega) (by omega)]
  unfold numV Lib.itoa
  by_cases hn : n < 0
  · rw [if_pos hn]
    unfold Lib.atoiAll
    have e : (45 : UInt8).toNat = 45 := rfl
    simp only [e, or_true, if_true]
    rw [mag_dec (by omega)]
    simp only [not_true_eq_false, false_and, if_false, true_and]
    rw [if_neg (by omega)]
    simp only [Option.some.injEq]
    omega
  · rw [if_neg hn]
    obtain ⟨u, rfl⟩ : ∃ u : Nat, n = (u : Int) := ⟨n.toNat, by omega⟩
    rw [Int.toNat_natCast]
    have hm := mag_dec (u := u) (by omega)
    cases hd : Lib.decDigits u with
    | nil => exact absurd hd (dec_ne u)
    | cons c r =>
      have hc := dec_dig u (b := c) (by rw [hd]; exact List.mem_cons_self ..)
      rw [hd] at hm
      unfold Lib.atoiAll
      simp only
      rw [if_neg (by omega), hm]
      simp only
      rw [if_neg (by omega), if_neg (by omega), if_neg (by omega)]
def wb (b : UInt8) : Prop := 33 ≤ b.toNat ∧ b.toNat < 127
theorem itoa_b {n : Int} (h : -1200000 ≤ n ∧ n ≤ 1200000) {b : UInt8} (hb : b ∈ itoaA n) : b.toNat = 45 ∨ 48 ≤ b.toNat ∧ b.toNat ≤ 57 := by
  rw [itoaA_eq (by omega) (by omega)] at hb
  unfold Lib.itoa at hb
  split at hb
  · rcases List.mem_cons.1 hb with h1 | h1
    · subst h1; exact .inl rfl
    · exact .inr (dec_dig _ h1)
  · exact .inr (dec_dig _ hb)
theorem itoa_ne {n : Int} (h : -1200000 ≤ n ∧ n ≤ 1200000) : itoaA n ≠ [] := by
  rw [itoaA_eq (by omega) (by omega)]
  unfold Lib.itoa
  split
  · simp
  · exact dec_ne _
theorem index_none : ∀ (l : List UInt8), (46 : UInt8) ∉ l → Lib.index l [46, 46] = -1
  | [], _ => rfl
  | b :: l, h => by
    have hb : b ≠ 46 := fun e => h (by rw [e]; exact List.mem_cons_self ..)
    rw [Lib.index, index_none l fun h' => h (List.mem_cons_of_mem _ h')]
    have : List.isPrefixOf [46, 46] (b :: l) = false := by
      simp [List.isPrefixOf, Ne.symm hb]
    rw [this]
    rfl
theorem index_two : ∀ (l r : List UInt8), (46 : UInt8) ∉ l → Lib.index (l ++ 46 :: 46 :: r) [46, 46] = l.length
  | [], r, _ => by
    rw [List.nil_append, Lib.index]
    have : List.isPrefixOf [46, 46] ((46 : UInt8) :: 46 :: r) = true := by simp [List.isPrefixOf]
    rw [this]
    rfl
  | b :: l, r, h => by
    have hb : b ≠ 46 := fun e => h (by rw [e]; exact List.mem_cons_self ..)
    have ih := index_two l r fun h' => h (List.mem_cons_of_mem _ h')
    rw [List.cons_append, Lib.index, ih]
    have : List.isPrefixOf [46, 46] (b :: (l ++ 46 :: 46 :: r)) = false := by
      simp [List.isPrefixOf, Ne.symm hb]
    rw [this]
    have h2 : (((l.length : Nat) : Int) == -1) = false := by
      rw [beq_eq_false_iff_ne]; omega
    rw [h2]
    simp
theorem cut_none {l : List UInt8} (h : (46 : UInt8) ∉ l) : Lib.cut l [46, 46] = (l, [], false) := by
  unfold Lib.cut
  rw [index_none l h, if_neg (by decide)]
theorem cut_two {l r : List UInt8} (h : (46 : UInt8) ∉ l) : Lib.cut (l ++ [46, 46] ++ r) [46, 46] = (l, r, true) := by
  have e : l ++ [46, 46] ++ r = l ++ 46 :: 46 :: r := by simp
  unfold Lib.cut
  rw [e, index_two l r h, if_pos (by omega)]
  simp
theorem no_dot {n : Int} (h : -1200000 ≤ n ∧ n ≤ 1200000) : (46 : UInt8) ∉ itoaA n := fun hb => by
  have := itoa_b h hb
  have e : (46 : UInt8).toNat = 46 := rfl
  omega
theorem parse_word {st : PSt} {i : Nat} {a b : Int} (ha : -1200000 ≤ a ∧ a ≤ 1200000) (hb : -1200000 ≤ b ∧ b ≤ 1200000) : parseW false i st (wordL a b) = some { st with zs := st.zs ++ [a, b] } := by
  unfold parseW
  rw [if_neg (fun h => by cases h.1)]
  unfold wordL
  by_cases h : a = b
  · rw [if_pos h, cut_none (no_dot ha)]
    simp only [Bool.false_eq_true, if_false]
    rw [atoi_itoa ha, h]
  · rw [if_neg h, cut_two (no_dot ha)]
    simp only [if_true]
    rw [atoi_itoa ha, atoi_itoa hb]
    simp
theorem parse_num {st : PSt} {i : Nat} {n : Int} (hn : -1200000 ≤ n ∧ n ≤ 1200000) (hi : 1 ≤ i) : parseW true i st (itoaA n) = if i = 1 then some { st with w := n } else if i = 2 then some { st with h := n } else if i = 3 then some { st with s := n } else none := by
  unfold parseW
  rw [if_neg (fun h => by have := h.2.1; omega), cut_none (no_dot hn)]
  simp only [Bool.false_eq_true, if_false]
  rw [atoi_itoa hn]
  simp
theorem goD_word {b : UInt8} {f : Nat} {cur t : List UInt8} (hb : wb b) : Lib.fieldsGoD (f + 1) cur (b :: t) = Lib.fieldsGoD f (cur ++ [b]) t := by
  have hd := Lib.decodeL_ascii b t (by have := hb.2; omega)
  rw [Lib.fieldsGoD, if_neg (by simp), hd]
  have hs : Lib.isSpaceR b.toNat = false := by
    obtain ⟨h1, h2⟩ := hb
    unfold Lib.isSpaceR
    simp
    omega
  simp only [hs]
  simp
theorem goD_space {b : UInt8} {f : Nat} {cur t : List UInt8} (hb : b.toNat = 32 ∨ b.toNat = 10) : Lib.fieldsGoD (f + 1) cur (b :: t) = (if cur = [] then [] else [cur]) ++ Lib.fieldsGoD f [] t := by
  have hd := Lib.decodeL_ascii b t (by omega)
  rw [Lib.fieldsGoD, if_neg (by simp), hd]
  have hs : Lib.isSpaceR b.toNat = true := by
    rcases hb with h | h <;> rw [h] <;> decide
  simp only [hs]
  simp
theorem goD_words : ∀ (w : List UInt8) {f : Nat} {cur t : List UInt8}, (∀ b, b ∈ w → wb b) → Lib.fieldsGoD (f + w.length) cur (w ++ t) = Lib.fieldsGoD f (cur ++ w) t
  | [], f, cur, t, _ => by simp
  | b :: w, f, cur, t, h => by
    rw [List.cons_append, List.length_cons, ← Nat.add_assoc, goD_word (h b (List.mem_cons_self ..)), goD_words w fun b hb => h b (List.mem_cons_of_mem _ hb)]
    simp
theorem goD_line : ∀ (l : List (List UInt8)) (x : List UInt8) {f : Nat}, (∀ w, w ∈ x :: l → w ≠ [] ∧ ∀ b, b ∈ w → wb b) → (x ++ Lib.joinTail [32] l ++ [10]).length ≤ f → Lib.fieldsGoD f [] (x ++ Lib.joinTail [32] l ++ [10]) = x :: l
  | [], x, f, h, hf => by
    obtain ⟨h1, h2⟩ := h x (List.mem_cons_self ..)
    have e : Lib.joinTail [32] [] = ([] : List UInt8) := rfl
    rw [e, List.append_nil] at hf ⊢
    obtain ⟨f', rfl⟩ : ∃ f', f = f' + 1 + x.length := ⟨f - 1 - x.length, by simp at hf; omega⟩
    rw [goD_words x h2, List.nil_append, goD_space (.inr rfl), if_neg h1]
    cases f' with
    | zero => rfl
    | succ f' => simp [Lib.fieldsGoD]
  | y :: l, x, f, h, hf => by
    obtain ⟨h1, h2⟩ := h x (List.mem_cons_self ..)
    have e : Lib.joinTail [32] (y :: l) = 32 :: (y ++ Lib.joinTail [32] l) := by simp [Lib.joinTail]
    have e2 : x ++ Lib.joinTail [32] (y :: l) ++ [10] = x ++ 32 :: (y ++ Lib.joinTail [32] l ++ [10]) := by rw [e]; simp
    rw [e2] at hf ⊢
    obtain ⟨f', rfl⟩ : ∃ f', f = f' + 1 + x.length := ⟨f - 1 - x.length, by simp at hf; omega⟩
    rw [goD_words x h2, List.nil_append, goD_space (.inl rfl), if_neg h1, goD_line l y (fun w hw => h w (List.mem_cons_of_mem _ hw)) (by simp at hf ⊢; omega)]
    rfl
theorem fields_line {l : List (List UInt8)} (h0 : l ≠ []) (h : ∀ w, w ∈ l → w ≠ [] ∧ ∀ b, b ∈ w → wb b) : Lib.fieldsD (lineL l) = l := by
  cases l with
  | nil => exact absurd rfl h0
  | cons x l =>
    unfold Lib.fieldsD lineL
    rw [Lib.join_cons]
    exact goD_line l x h (Nat.le_succ _)
theorem idxA_at : ∀ (l r : List UInt8) (k : Nat), (10 : UInt8) ∉ l → idxA (l ++ 10 :: r) 10 k = (k + l.length : Nat)
  | [], r, k, _ => by simp [idxA]
  | b :: l, r, k, h => by
    have hb : (b == 10) = false := by
      rw [beq_eq_false_iff_ne]
      exact fun e => h (by rw [e]; exact List.mem_cons_self ..)
    rw [List.cons_append, idxA, hb, idxA_at l r (k + 1) fun h' => h (List.mem_cons_of_mem _ h')]
    simp
    omega
theorem linesF_flat : ∀ (Ls : List (List UInt8)) {f : Nat}, (∀ L, L ∈ Ls → ∃ l, L = l ++ [10] ∧ (10 : UInt8) ∉ l) → Ls.flatten.length ≤ f → linesF f Ls.flatten = Ls
  | [], f, _, _ => linesF_nil f
  | L :: Ls, f, h, hf => by
    obtain ⟨l, rfl, hl⟩ := h L (List.mem_cons_self ..)
    have e : (((l ++ [10]) :: Ls).flatten : List UInt8) = l ++ 10 :: Ls.flatten := by simp
    rw [e] at hf ⊢
    obtain ⟨f', rfl⟩ : ∃ f', f = f' + 1 := ⟨f - 1, by simp at hf; omega⟩
    have hi : idxB (l ++ 10 :: Ls.flatten) 10 = (l.length : Int) := by
      have := idxA_at l Ls.flatten 0 hl
      unfold idxB
      rw [this]
      simp
    rw [linesF, if_neg (by simp), hi, if_pos (by omega), Int.toNat_natCast]
    have t1 : (l ++ 10 :: Ls.flatten).take (l.length + 1) = l ++ [10] := by
      rw [List.take_append, List.take_of_length_le (by omega)]
      simp
    have t2 : (l ++ 10 :: Ls.flatten).drop (l.length + 1) = Ls.flatten := by
      rw [List.drop_append]
      simp
    rw [t1, t2, linesF_flat Ls (fun L hL => h L (List.mem_cons_of_mem _ hL)) (by simp at hf ⊢; omega)]
end Go.Ab.Grid
set_option maxRecDepth 100000
namespace Go.Ab.Grid
open Go Go.Ab
theorem parseL_append {head : Bool} : ∀ {l1 l2 : List (List UInt8)} {i : Nat} {st : PSt}, parseL head i st (l1 ++ l2) = (parseL head i st l1).bind fun st' => parseL head (i + l1.length) st' l2
  | [], l2, i, st => by simp [parseL]
  | w :: l1, l2, i, st => by
    rw [List.cons_append, parseL, parseL]
    cases parseW head i st w with
    | none => rfl
    | some st' =>
      simp only
      rw [parseL_append, List.length_cons, show i + 1 + l1.length = i + (l1.length + 1) by omega]
theorem parseA_append : ∀ {l1 l2 : List (List UInt8)} {st : PSt}, parseA false st (l1 ++ l2) = (parseA false st l1).bind fun st' => parseA false st' l2
  | [], l2, st => by simp [parseA]
  | w :: l1, l2, st => by
    rw [List.cons_append, parseA, parseA]
    cases parseL false 0 st (Lib.fieldsD w) with
    | none => rfl
    | some st' =>
      simp only
      rw [parseA_append]
theorem take_two {zs : List Int} {k : Nat} (h : k + 2 ≤ zs.length) : zs.take k ++ [gi zs k, gi zs (k + 1)] = zs.take (k + 2) := by
  have g : ∀ j, j < zs.length → zs[j]? = some (gi zs j) := fun j hj => by simp [gi, List.getD, hj]
  rw [show k + 2 = k + 1 + 1 from rfl, List.take_add_one, List.take_add_one, g k (by omega), g (k + 1) (by omega)]
  simp
theorem join_mem {ws : List (List UInt8)} {b : UInt8} (hb : b ∈ Lib.join ws [32]) : b = 32 ∨ ∃ w, w ∈ ws ∧ b ∈ w := by
  cases ws with
  | nil => rw [Lib.join_nil] at hb; cases hb
  | cons x l =>
    rw [Lib.join_cons] at hb
    rcases List.mem_append.1 hb with h | h
    · exact .inr ⟨x, List.mem_cons_self .., h⟩
    · unfold Lib.joinTail at h
      obtain ⟨y, hy, hby⟩ := List.mem_flatten.1 h
      obtain ⟨z, hz, rfl⟩ := List.mem_map.1 hy
      rcases List.mem_append.1 hby with h1 | h1
      · exact .inl (List.mem_singleton.1 h1)
      · exact .inr ⟨z, List.mem_cons_of_mem _ hz, h1⟩
theorem line_ok {ws : List (List UInt8)} (h : ∀ w, w ∈ ws → ∀ b, b ∈ w → wb b) : ∃ l, lineL ws = l ++ [10] ∧ (10 : UInt8) ∉ l := by
  refine ⟨_, rfl, fun hb => ?_⟩
  rcases join_mem hb with h1 | ⟨w, hw, hbw⟩
  · cases h1
  · have := (h w hw _ hbw).1
    have e : (10 : UInt8).toNat = 10 := rfl
    omega
theorem itoa_wb {n : Int} (h : -1200000 ≤ n ∧ n ≤ 1200000) {b : UInt8} (hb : b ∈ itoaA n) : wb b := by
  have := itoa_b h hb
  unfold wb
  omega
theorem word_wb {a b : Int} (ha : -1200000 ≤ a ∧ a ≤ 1200000) (hb : -1200000 ≤ b ∧ b ≤ 1200000) : wordL a b ≠ [] ∧ ∀ x, x ∈ wordL a b → wb x := by
  unfold wordL
  split
  · exact ⟨itoa_ne ha, fun x hx => itoa_wb ha hx⟩
  · refine ⟨by simp, fun x hx => ?_⟩
    rcases List.mem_append.1 hx with h | h
    · rcases List.mem_append.1 h with h1 | h1
      · exact itoa_wb ha h1
      · have e : (46 : UInt8).toNat = 46 := rfl
        have : x = 46 := by simpa using h1
        subst this
        unfold wb
        omega
    · exact itoa_wb hb h
section
variable {w h s : Int} {m wd ht : Nat} {zs : List Int}
theorem row_wb (hz : ∀ i, -1200000 ≤ gi zs i ∧ gi zs i ≤ 1200000) {y i : Nat} : ∀ x, x ∈ rowW wd zs y i → x ≠ [] ∧ ∀ b, b ∈ x → wb b := fun x hx => by
  obtain ⟨j, _, rfl⟩ := rowW_mem hx
  exact word_wb (hz _) (hz _)
theorem rowW_ne {y i : Nat} (hi : 0 < i) : rowW wd zs y i ≠ [] := fun h => by
  have := rowW_len (w := wd) (y := y) (zs := zs) (i := i)
  rw [h] at this
  simp at this
  omega
theorem head_wb (hw : -1200000 ≤ w ∧ w ≤ 1200000) (hh : -1200000 ≤ h ∧ h ≤ 1200000) (hs : -1200000 ≤ s ∧ s ≤ 1200000) : ∀ x, x ∈ [[103, 114, 105, 100], itoaA w, itoaA h, itoaA s] → x ≠ [] ∧ ∀ b, b ∈ x → wb b := fun x hx => by
  simp only [List.mem_cons, List.not_mem_nil, or_false] at hx
  rcases hx with rfl | rfl | rfl | rfl
  · refine ⟨by simp, fun b hb => ?_⟩
    simp only [List.mem_cons, List.not_mem_nil, or_false] at hb
    unfold wb
    rcases hb with rfl | rfl | rfl | rfl <;> decide
  · exact ⟨itoa_ne hw, fun b hb => itoa_wb hw hb⟩
  · exact ⟨itoa_ne hh, fun b hb => itoa_wb hh hb⟩
  · exact ⟨itoa_ne hs, fun b hb => itoa_wb hs hb⟩
def rowsLs (wd : Nat) (zs : List Int) (n : Nat) : List (List UInt8) := (List.range n).map fun y => lineL (rowW wd zs y wd)
theorem rowsL_flat : ∀ {n : Nat}, rowsL wd zs n = (rowsLs wd zs n).flatten
  | 0 => rfl
  | n + 1 => by
    rw [rowsL, rowsL_flat, rowsLs, rowsLs, List.range_succ, List.map_append, List.flatten_append]
    simp
theorem parse_row (hz : ∀ i, -1200000 ≤ gi zs i ∧ gi zs i ≤ 1200000) {y : Nat} : ∀ {i : Nat}, y * wd * 2 + i * 2 ≤ zs.length → parseL false 0 ⟨w, h, s, zs.take (y * wd * 2)⟩ (rowW wd zs y i) = some ⟨w, h, s, zs.take (y * wd * 2 + i * 2)⟩
  | 0, _ => by simp [rowW, parseL]
  | i + 1, hi => by
    rw [rowW, parseL_append, parse_row hz (by omega)]
    simp only [Option.bind_some, parseL]
    rw [parse_word (hz _) (hz _)]
    simp only
    rw [take_two (by omega), show y * wd * 2 + i * 2 + 2 = y * wd * 2 + (i + 1) * 2 by omega]
theorem parse_rows (hz : ∀ i, -1200000 ≤ gi zs i ∧ gi zs i ≤ 1200000) (hw : 0 < wd) : ∀ {n : Nat}, n * wd * 2 ≤ zs.length → parseA false ⟨w, h, s, []⟩ (rowsLs wd zs n) = some ⟨w, h, s, zs.take (n * wd * 2)⟩
  | 0, _ => by simp [rowsLs, parseA]
  | n + 1, hn => by
    have e : (n + 1) * wd * 2 = n * wd * 2 + wd * 2 := by rw [Nat.add_mul]; omega
    rw [e] at hn ⊢
    have er : rowsLs wd zs (n + 1) = rowsLs wd zs n ++ [lineL (rowW wd zs n wd)] := by
      unfold rowsLs
      rw [List.range_succ, List.map_append]
      rfl
    rw [er, parseA_append, parse_rows hz hw (by omega)]
    simp only [Option.bind_some, parseA]
    rw [fields_line (rowW_ne hw) (row_wb hz), parse_row hz hn]
theorem read_text (hE : gridE w h s m zs = 0) (hl : zs.length = m * 2) : readP (textL w h s zs) = some ⟨w, h, s, zs⟩ := by
  obtain ⟨hw, hh, hmw, hv⟩ := gridE_parts hE
  have hs := gridE_s hE
  obtain ⟨wd, rfl⟩ : ∃ wd : Nat, w = (wd : Int) := ⟨w.toNat, by omega⟩
  obtain ⟨ht, rfl⟩ : ∃ ht : Nat, h = (ht : Int) := ⟨h.toNat, by omega⟩
  have hm1 : m = ht * wd := by
    have : (m : Int) = ((ht * wd : Nat) : Int) := by rw [hmw, Int.natCast_mul, Int.mul_comm]
    omega
  have hz : ∀ i, -1200000 ≤ gi zs i ∧ gi zs i ≤ 1200000 := fun i => by
    by_cases hi : i < m * 2
    · obtain ⟨j, hj⟩ : ∃ j, i = j * 2 ∨ i = j * 2 + 1 := ⟨i / 2, by omega⟩
      rcases hj with rfl | rfl
      · have := hv j (by omega); omega
      · have := hv j (by omega); omega
    · have : gi zs i = 0 := by simp [gi, List.getD, show zs.length ≤ i by omega]
      omega
  have hwb := head_wb (w := (wd : Int)) (h := (ht : Int)) (s := s) (by omega) (by omega) (by omega)
  have eT : textL (wd : Int) (ht : Int) s zs = (headL wd ht s :: rowsLs wd zs ht).flatten := by
    unfold textL
    rw [Int.toNat_natCast, Int.toNat_natCast, rowsL_flat]
    simp
  unfold readP
  rw [eT, linesF_flat (headL wd ht s :: rowsLs wd zs ht) (fun L hL => ?_) (Nat.le_refl _)]
  · have eh : Lib.fieldsD (headL wd ht s) = [[103, 114, 105, 100], itoaA wd, itoaA ht, itoaA s] := fields_line (by simp) hwb
    have g0 : parseW true 0 ⟨0, 0, 0, []⟩ [103, 114, 105, 100] = some ⟨0, 0, 0, []⟩ := by
      unfold parseW
      rw [if_pos ⟨rfl, rfl, rfl⟩]
    have g1 := parse_num (st := ⟨0, 0, 0, []⟩) (i := 1) (n := (wd : Int)) (by omega) (by omega)
    have g2 := parse_num (st := ⟨(wd : Int), 0, 0, []⟩) (i := 2) (n := (ht : Int)) (by omega) (by omega)
    have g3 := parse_num (st := ⟨(wd : Int), (ht : Int), 0, []⟩) (i := 3) (n := s) (by omega) (by omega)
    have eL : parseL true 0 ⟨0, 0, 0, []⟩ (Lib.fieldsD (headL wd ht s)) = some ⟨(wd : Int), (ht : Int), s, []⟩ := by
      rw [eh]
      simp only [parseL]
      rw [g0]
      simp only [Nat.zero_add]
      rw [g1]
      simp only [if_true]
      rw [show (1 : Nat) + 1 = 2 from rfl, g2]
      simp only [show ¬ (2 : Nat) = 1 by decide, if_false, if_true]
      rw [show (2 : Nat) + 1 = 3 from rfl, g3]
      simp
    rw [parseA, eL]
    simp only
    rw [parse_rows hz (by omega) (by rw [hl, hm1]; exact Nat.le_refl _)]
    rw [List.take_of_length_le (by rw [hl, hm1]; exact Nat.le_refl _)]
  · rcases List.mem_cons.1 hL with rfl | h1
    · exact line_ok fun w hw => (hwb w hw).2
    · unfold rowsLs at h1
      obtain ⟨y, _, rfl⟩ := List.mem_map.1 h1
      exact line_ok fun w hw => (row_wb hz w hw).2
end
end Go.Ab.Grid
set_option maxRecDepth 100000
namespace Go.Ab.Grid
open Go Go.Ab
section
variable {g : Nat} {rd : Option Nat} {T : List Value} {D : List Nat} {A : Hp} {Q : Ex → St → Prop} {V : Value → Hp → Prop}
theorem one_dig : ∀ n : Nat, n < 10 → strSlA (strV [48, 49, 50, 51, 52, 53, 54, 55, 56, 57]) (some (n : Int)) (fun _ => some ((n : Int) + 1)) = some (strV (Lib.decDigits n)) := by
  intro n hn
  rw [Lib.decDigits_one hn]
  have : n = 0 ∨ n = 1 ∨ n = 2 ∨ n = 3 ∨ n = 4 ∨ n = 5 ∨ n = 6 ∨ n = 7 ∨ n = 8 ∨ n = 9 := by omega
  rcases this with rfl | rfl | rfl | rfl | rfl | rfl | rfl | rfl | rfl | rfl <;> rfl
theorem decN_len : ∀ (u : Nat), u < 1000000000 → (Lib.decDigits u).length ≤ 9 := by
  intro u hu
  rw [Lib.decDigits_length]
  have h := Lib.nDigits_pos u
  rcases Nat.lt_or_ge 9 (Lib.nDigits u) with h1 | h1
  · exfalso
    have key : ∀ (k u : Nat), k < Lib.nDigits u → 10 ^ k ≤ u ∨ u = 0 ∧ k = 0 := by
      intro k
      induction k with
      | zero => intro u _; rcases Nat.eq_zero_or_pos u with h | h; exact .inr ⟨h, rfl⟩; exact .inl h
      | succ k ih =>
        intro u h
        by_cases hu : u < 10
        · rw [Lib.nDigits_small hu] at h; omega
        · rw [Lib.nDigits_big hu] at h
          rcases ih (u / 10) (by omega) with h2 | ⟨h2, _⟩
          · refine .inl ?_
            rw [Nat.pow_succ]
            have := Nat.div_mul_le_self u 10
            have := Nat.mul_le_mul_right 10 h2
            omega
          · omega
    rcases key 9 u h1 with h2 | ⟨_, h2⟩
    · have : (10 : Nat) ^ 9 = 1000000000 := by decide
      omega
    · cases h2
  · exact h1
theorem w341n : ∀ (u : Nat) {A : Hp} {V : Value → Hp → Prop}, u < 1000000000 → V (strV (Lib.decDigits u)) A → WF AP KL g 341 [.int .i64 (u : Int)] A V := by
  intro u
  induction u using Nat.strongRecOn with
  | _ u ih =>
    intro A V hu hV
    rw [WF_body (show KL 341 = none from rfl) (show AP 341 = some F341 from rfl)]
    by_cases h : u < 10
    · have e1 : wr .i64 ((u : Int) + 1) = (u : Int) + 1 := wrId (by omega) (by omega)
      simp (disch := as_aux_lemma => first | omega | simp only [hDs] <;> omega | simp [isCell]) [hRs, takeMarks, resA, resAll, resOne, Value.cells, F341, show ¬ (u : Int) < 0 by omega, show (u : Int) < 10 by omega, h, e1, boundA, intOfA, one_dig u h]
      exact hV
    · have q1 : (u : Int).tdiv 10 = ((u / 10 : Nat) : Int) := by rw [Int.tdiv_eq_ediv_of_nonneg (by omega)]; omega
      have q2 : (u : Int).tmod 10 = ((u % 10 : Nat) : Int) := by rw [Int.tmod_eq_emod_of_nonneg (by omega)]; omega
      obtain ⟨a, ha⟩ : ∃ a, a = u / 10 := ⟨_, rfl⟩
      obtain ⟨b, hb⟩ : ∃ b, b = u % 10 := ⟨_, rfl⟩
      rw [← ha] at q1
      rw [← hb] at q2
      have q3 : wr .i64 (a : Int) = (a : Int) := wrId (by omega) (by omega)
      have l1 := decN_len a (by omega)
      have l2 := decN_len b (by omega)
      have q1' : (u : Int) / 10 = (a : Int) := by omega
      have q2' : (u : Int) % 10 = (b : Int) := by omega
      simp (disch := as_aux_lemma => first | omega | simp only [hDs] <;> omega | simp [isCell]) [hRs, takeMarks, resA, resAll, resOne, Value.cells, F341, show ¬ (u : Int) < 0 by omega, show ¬ (u : Int) < 10 by omega, h, binA_quo (show (10 : Int) ≠ 0 by decide), binA_rem (show (10 : Int) ≠ 0 by decide), q1, q1', q3]
      refine ih a (by omega) (by omega) ?_
      simp (disch := as_aux_lemma => first | omega | simp only [hDs] <;> omega | simp [isCell]) [hRs, takeMarks, resA, resAll, resOne, Value.cells, binA_rem (show (10 : Int) ≠ 0 by decide), q2, q2']
      refine ih b (by omega) (by omega) ?_
      simp (disch := as_aux_lemma => first | omega | simp only [hDs] <;> omega | simp [isCell]) [hRs, takeMarks, resA, resAll, resOne, Value.cells, strAdd (x := Lib.decDigits a) (y := Lib.decDigits b) (by omega)]
      have e : Lib.decDigits u = Lib.decDigits a ++ Lib.decDigits b := by
        rw [Lib.decDigits, dif_neg h, ← ha, ← hb, Lib.decDigits_one (show b < 10 by omega)]
      rw [e] at hV
      exact hV
theorem w341 {n : Int} (hn : -1200000 ≤ n ∧ n ≤ 1200000) (hV : V (strV (itoaA n)) A) : WF AP KL g 341 [.int .i64 n] A V := by
  rw [itoaA_eq (by omega) (by omega)] at hV
  unfold Lib.itoa at hV
  by_cases h : n < 0
  · rw [if_pos h] at hV
    rw [WF_body (show KL 341 = none from rfl) (show AP 341 = some F341 from rfl)]
    obtain ⟨u, hu⟩ : ∃ u : Nat, -n = (u : Int) := ⟨(-n).toNat, by omega⟩
    have e : n.natAbs = u := by omega
    rw [e] at hV
    have e1 : wr .i64 (u : Int) = (u : Int) := wrId (by omega) (by omega)
    have l1 := decN_len u (by omega)
    simp (disch := as_aux_lemma => first | omega | simp only [hDs] <;> omega | simp [isCell]) [hRs, takeMarks, resA, resAll, resOne, Value.cells, F341, h, hu, e1]
    refine w341n u (by omega) ?_
    simp (disch := as_aux_lemma => first | omega | simp only [hDs] <;> omega | simp [isCell]) [hRs, takeMarks, resA, resAll, resOne, Value.cells, strAdd (x := [45]) (y := Lib.decDigits u) (by simp; omega)]
    exact hV
  · rw [if_neg h] at hV
    obtain ⟨u, rfl⟩ : ∃ u : Nat, n = (u : Int) := ⟨n.toNat, by omega⟩
    rw [Int.toNat_natCast] at hV
    exact w341n u (by omega) hV
end
end Go.Ab.Grid
set_option maxRecDepth 100000
namespace Go.Ab.Grid
open Go Go.Ab
def accR (wd : Nat) (zs : List Int) : Nat → List UInt8
  | 0 => []
  | i + 1 => accR wd zs i ++ wordL (gi zs (i * 2)) (gi zs (i * 2 + 1)) ++ [if (i + 1) % wd = 0 then 10 else 32]
def partS (ws : List (List UInt8)) : List UInt8 := (ws.map (· ++ [32])).flatten
theorem tail_part : ∀ (l : List (List UInt8)) (y : List UInt8), y ++ Lib.joinTail [32] l ++ [32] = partS (y :: l)
  | [], y => by simp [Lib.joinTail, partS]
  | x :: l, y => by
    have := tail_part l x
    simp [Lib.joinTail, partS] at this ⊢
    exact this
theorem join_snoc {ws : List (List UInt8)} {x : List UInt8} : Lib.join (ws ++ [x]) [32] = partS ws ++ x := by
  cases ws with
  | nil => simp [Lib.join_one, partS]
  | cons y l =>
    rw [List.cons_append, Lib.join_cons, ← tail_part]
    simp [Lib.joinTail]
theorem accR_row {wd : Nat} {zs : List Int} {y : Nat} (h0 : accR wd zs (y * wd) = rowsL wd zs y) : ∀ {j : Nat}, j < wd → accR wd zs (y * wd + j) = rowsL wd zs y ++ partS (rowW wd zs y j)
  | 0, _ => by simp [rowW, partS, h0]
  | j + 1, hj => by
    rw [show y * wd + (j + 1) = (y * wd + j) + 1 by omega, accR, accR_row h0 (by omega), rowW]
    have hm : (y * wd + j + 1) % wd = j + 1 := by
      rw [Nat.add_assoc, Nat.mul_add_mod', Nat.mod_eq_of_lt (by omega)]
    rw [hm, if_neg (by omega), show (y * wd + j) * 2 = y * wd * 2 + j * 2 by omega]
    simp [partS]
theorem accR_rows {wd : Nat} {zs : List Int} (hw : 0 < wd) : ∀ {y : Nat}, accR wd zs (y * wd) = rowsL wd zs y
  | 0 => by simp [accR, rowsL]
  | y + 1 => by
    obtain ⟨k, rfl⟩ : ∃ k, wd = k + 1 := ⟨wd - 1, by omega⟩
    have ih := accR_rows (wd := k + 1) (zs := zs) hw (y := y)
    have h1 := accR_row (wd := k + 1) (zs := zs) (y := y) ih (j := k) (by omega)
    rw [show (y + 1) * (k + 1) = (y * (k + 1) + k) + 1 by rw [Nat.add_mul]; omega, accR, h1, rowsL]
    have hm : (y * (k + 1) + k + 1) % (k + 1) = 0 := by
      rw [Nat.add_assoc, Nat.mul_add_mod', Nat.mod_self]
    rw [hm, if_pos rfl, show (y * (k + 1) + k) * 2 = y * (k + 1) * 2 + k * 2 by omega, lineL, rowW, join_snoc]
    simp
theorem accR_len {wd : Nat} {zs : List Int} : ∀ {i : Nat}, (accR wd zs i).length ≤ i * 45
  | 0 => by simp [accR]
  | i + 1 => by
    have a := accR_len (wd := wd) (zs := zs) (i := i)
    have b := wordL_len (gi zs (i * 2)) (gi zs (i * 2 + 1))
    rw [accR, List.length_append, List.length_append]
    simp
    omega
section
variable {g : Nat} {rd : Option Nat} {T : List Value} {D : List Nat} {A : Hp} {Q : Ex → St → Prop} {V : Value → Hp → Prop}
theorem loop307 {A0 : Hp} {wd m X1 : Nat} {h s : Int} {zs : List Int} {sl : Value} {hd : List UInt8} (hw : 0 < wd ∧ wd ≤ 24) (hm : m ≤ 576) (hsl : RdS A0 2 m (ints zs) sl) (hzr : ∀ i, -1200000 ≤ gi zs i ∧ gi zs i ≤ 1200000) (hX : A0.get X1 = some (.cells [.int .i64 wd, .int .i64 h, .int .i64 s, sl] false)) (hhd : hd.length ≤ 1000) (hg : g ≤ A0.n)
    (hQ : ∀ T' A', Ext' A0 A' → tget T' 5 = strV (hd ++ accR wd zs m) → Q (.exit 0) ⟨T', D, A'⟩) :
    ∀ (k i : Nat) {T : List Value} {A : Hp}, i + k = m → Ext' A0 A → tget T 1 = .pointer (some ⟨X1, 0, none⟩) → tget T 5 = strV (hd ++ accR wd zs i) → tget T 6 = .int .i64 i → W AP KL g rd (.loop body307) ⟨T, D, A⟩ Q := by
  intro k
  have hl := hsl.len
  have hzl : zs.length = m * 2 := by have := hsl.1; simpa using this
  induction k with
  | zero =>
    intro i T A hi e t1 t5 t6
    have : i = m := by omega
    subst this
    rw [W_loop]
    simp (disch := as_aux_lemma => first | omega | simp only [hDs] <;> omega | simp [isCell]) [hRs, takeMarks, resA, resAll, resOne, Value.cells, body307, t1, t6, e.get hX, hl]
    exact hQ _ _ e (by simp [t5])
  | succ k ih =>
    intro i T A hi e t1 t5 t6
    have him : i < m := by omega
    have e5 : wr .i64 ((i : Int) + 1) = ((i + 1 : Nat) : Int) := by rw [wrId (by omega) (by omega)]; simp
    have em : (((i : Int) + 1).tmod wd) = (((i + 1) % wd : Nat) : Int) := by rw [Int.tmod_eq_emod_of_nonneg (by omega)]; simp
    obtain ⟨b, c, ro, rfl, hb0⟩ := hsl.at him
    have hb := e.get hb0
    have hbn := Hp.lt_of_get hb
    have hAn := e.1
    have ra := hzr (i * 2)
    have rb := hzr (i * 2 + 1)
    obtain ⟨a, ha⟩ : ∃ a, a = gi zs (i * 2) := ⟨_, rfl⟩
    obtain ⟨b', hb'⟩ : ∃ b', b' = gi zs (i * 2 + 1) := ⟨_, rfl⟩
    rw [← ha] at ra
    rw [← hb'] at rb
    have la := itoaA_len a
    have lb := itoaA_len b'
    have lacc := accR_len (wd := wd) (zs := zs) (i := i)
    obtain ⟨acc, hacc⟩ : ∃ acc, acc = hd ++ accR wd zs i := ⟨_, rfl⟩
    rw [← hacc] at t5
    have lac : acc.length ≤ 30000 := by rw [hacc, List.length_append]; omega
    obtain ⟨B, hB⟩ : ∃ B, B = A.push (.cells [.int .i64 a, .int .i64 b'] false) := ⟨_, rfl⟩
    have eB : Ext' A B := by rw [hB]; exact Ext'.push _ _
    have b7 : B.get A.n = some (.cells [.int .i64 a, .int .i64 b'] false) := by rw [hB]; exact get_push_new
    have bX := (e.trans eB).get hX
    obtain ⟨r, hr⟩ : ∃ r, r = (i + 1) % wd := ⟨_, rfl⟩
    rw [← hr] at em
    have hnext : ∀ {x : UInt8} {T' : List Value}, (acc ++ wordL a b' ++ [x] = hd ++ accR wd zs (i + 1)) → tget T' 1 = .pointer (some ⟨X1, 0, none⟩) → tget T' 5 = strV (acc ++ wordL a b' ++ [x]) → tget T' 6 = .int .i64 ((i + 1 : Nat) : Int) → W AP KL g rd (.loop body307) ⟨T', D, B⟩ Q := fun hx q1 q5 q6 =>
      ih (i + 1) (by omega) (e.trans eB) q1 (by rw [q5, hx]) q6
    have hrow : ∀ x, (if r = 0 then (10 : UInt8) else 32) = x → acc ++ wordL a b' ++ [x] = hd ++ accR wd zs (i + 1) := fun x hx => by
      rw [accR, ← hr, hx, hacc, ha, hb']
      simp
    have lw := wordL_len a b'
    rw [W_loop]
    by_cases hab : a = b'
    · subst hab
      have ew : wordL a a = itoaA a := if_pos rfl
      by_cases h0 : r = 0
      · simp (disch := as_aux_lemma => first | omega | simp only [hDs] <;> omega | simp [isCell]) [hRs, takeMarks, resA, resAll, resOne, Value.cells, body307, t1, t5, t6, e.get hX, hl, show ((i : Int) < m) by omega, him, idxSA_ok, hb, ints_two (show i * 2 + 2 ≤ zs.length by omega), ← ha, ← hb', fillA, storeB_cells, setRange, set_push_eq, setRange_all, ← hB, b7]
        refine w341 ra ?_
        simp (disch := as_aux_lemma => first | omega | simp only [hDs] <;> omega | simp [isCell]) [hRs, takeMarks, resA, resAll, resOne, Value.cells, strAdd (x := acc) (y := itoaA a) (by omega), b7, bX, e5, binA_rem (show ((wd : Nat) : Int) ≠ 0 by omega), em, h0, t1, strAdd (x := acc ++ itoaA a) (y := [10]) (by simp; omega), t6]
        refine hnext (hrow 10 (if_pos h0)) ?_ ?_ ?_
        · simp [t1]
        · simp [ew]
        · simp
      · simp (disch := as_aux_lemma => first | omega | simp only [hDs] <;> omega | simp [isCell]) [hRs, takeMarks, resA, resAll, resOne, Value.cells, body307, t1, t5, t6, e.get hX, hl, show ((i : Int) < m) by omega, him, idxSA_ok, hb, ints_two (show i * 2 + 2 ≤ zs.length by omega), ← ha, ← hb', fillA, storeB_cells, setRange, set_push_eq, setRange_all, ← hB, b7]
        refine w341 ra ?_
        simp (disch := as_aux_lemma => first | omega | simp only [hDs] <;> omega | simp [isCell]) [hRs, takeMarks, resA, resAll, resOne, Value.cells, strAdd (x := acc) (y := itoaA a) (by omega), b7, bX, e5, binA_rem (show ((wd : Nat) : Int) ≠ 0 by omega), em, h0, t1, strAdd (x := acc ++ itoaA a) (y := [32]) (by simp; omega), t6]
        refine hnext (hrow 32 (if_neg h0)) ?_ ?_ ?_
        · simp [t1]
        · simp [ew]
        · simp
    · have ew : wordL a b' = itoaA a ++ [46, 46] ++ itoaA b' := if_neg hab
      by_cases h0 : r = 0
      · simp (disch := as_aux_lemma => first | omega | simp only [hDs] <;> omega | simp [isCell]) [hRs, takeMarks, resA, resAll, resOne, Value.cells, body307, t1, t5, t6, e.get hX, hl, show ((i : Int) < m) by omega, him, idxSA_ok, hb, ints_two (show i * 2 + 2 ≤ zs.length by omega), ← ha, ← hb', fillA, storeB_cells, setRange, set_push_eq, setRange_all, ← hB, b7]
        refine w341 ra ?_
        simp (disch := as_aux_lemma => first | omega | simp only [hDs] <;> omega | simp [isCell]) [hRs, takeMarks, resA, resAll, resOne, Value.cells, strAdd (x := acc) (y := itoaA a) (by omega), b7, hab]
        refine w341 rb ?_
        simp (disch := as_aux_lemma => first | omega | simp only [hDs] <;> omega | simp [isCell]) [hRs, takeMarks, resA, resAll, resOne, Value.cells, strAdd (x := [46, 46]) (y := itoaA b') (by simp; omega), strAdd (x := acc ++ itoaA a) (y := 46 :: 46 :: itoaA b') (by simp; omega), bX, e5, binA_rem (show ((wd : Nat) : Int) ≠ 0 by omega), em, h0, t1, strAdd (x := acc ++ (itoaA a ++ 46 :: 46 :: itoaA b')) (y := [10]) (by simp; omega), t6]
        refine hnext (hrow 10 (if_pos h0)) ?_ ?_ ?_
        · simp [t1]
        · simp [ew]
        · simp
      · simp (disch := as_aux_lemma => first | omega | simp only [hDs] <;> omega | simp [isCell]) [hRs, takeMarks, resA, resAll, resOne, Value.cells, body307, t1, t5, t6, e.get hX, hl, show ((i : Int) < m) by omega, him, idxSA_ok, hb, ints_two (show i * 2 + 2 ≤ zs.length by omega), ← ha, ← hb', fillA, storeB_cells, setRange, set_push_eq, setRange_all, ← hB, b7]
        refine w341 ra ?_
        simp (disch := as_aux_lemma => first | omega | simp only [hDs] <;> omega | simp [isCell]) [hRs, takeMarks, resA, resAll, resOne, Value.cells, strAdd (x := acc) (y := itoaA a) (by omega), b7, hab]
        refine w341 rb ?_
        simp (disch := as_aux_lemma => first | omega | simp only [hDs] <;> omega | simp [isCell]) [hRs, takeMarks, resA, resAll, resOne, Value.cells, strAdd (x := [46, 46]) (y := itoaA b') (by simp; omega), strAdd (x := acc ++ itoaA a) (y := 46 :: 46 :: itoaA b') (by simp; omega), bX, e5, binA_rem (show ((wd : Nat) : Int) ≠ 0 by omega), em, h0, t1, strAdd (x := acc ++ (itoaA a ++ 46 :: 46 :: itoaA b')) (y := [32]) (by simp; omega), t6]
        refine hnext (hrow 32 (if_neg h0)) ?_ ?_ ?_
        · simp [t1]
        · simp [ew]
        · simp
theorem w307 {w h s : Int} {m : Nat} {zs : List Int} {sl : Value} (hm : m < 1000000) (hsl : RdS A 2 m (ints zs) sl) (hg : g ≤ A.n) (hV : ∀ A' t e, Ext' A A' → WrV w h s m zs t e → V (.tuple ⟨[strV t, .int .i64 e]⟩) A') : WF AP KL g 307 [gridV w h s sl] A V := by
  rw [WF_body (show KL 307 = none from rfl) (show AP 307 = some F307 from rfl)]
  obtain ⟨B, hB⟩ : ∃ B, B = A.push (.cells [.int .i64 w, .int .i64 h, .int .i64 s, sl] false) := ⟨_, rfl⟩
  have eB : Ext' A B := by rw [hB]; exact Ext'.push _ _
  have nB : B.n = A.n + 1 := by rw [hB]; rfl
  have b1 : B.get A.n = some (.cells [.int .i64 w, .int .i64 h, .int .i64 s, sl] false) := by rw [hB]; exact get_push_new
  simp (disch := as_aux_lemma => first | omega | simp only [hDs] <;> omega | simp [isCell]) [hRs, takeMarks, resA, resAll, resOne, Value.cells, F307, gridV, ← hB, b1]
  refine w40 (w := w) (h := h) (s := s) (zs := zs) (eB.rdS hsl) hm (by omega) fun A1 e1 => ?_
  have n1 := e1.1
  have f1 := eB.trans e1
  have c1 := e1.get b1
  by_cases hE : gridE w h s m zs = 0
  · obtain ⟨hw, hh, hmw, hv⟩ := gridE_parts hE
    obtain ⟨wd, rfl⟩ : ∃ wd : Nat, w = (wd : Int) := ⟨w.toNat, by omega⟩
    obtain ⟨ht, rfl⟩ : ∃ ht : Nat, h = (ht : Int) := ⟨h.toNat, by omega⟩
    have hm1 : m = ht * wd := by
      have : (m : Int) = ((ht * wd : Nat) : Int) := by rw [hmw, Int.natCast_mul, Int.mul_comm]
      omega
    have hm2 : ht * wd ≤ 24 * 24 := Nat.mul_le_mul (by omega) (by omega)
    have hzl : zs.length = m * 2 := by have := hsl.1; simpa using this
    have hs := gridE_s hE
    have hzr : ∀ i, -1200000 ≤ gi zs i ∧ gi zs i ≤ 1200000 := fun i => by
      by_cases hi : i < m * 2
      · obtain ⟨j, hj⟩ : ∃ j, i = j * 2 ∨ i = j * 2 + 1 := ⟨i / 2, by omega⟩
        rcases hj with rfl | rfl
        · have := hv j (by omega); omega
        · have := hv j (by omega); omega
      · have : gi zs i = 0 := by simp [gi, List.getD, show zs.length ≤ i by omega]
        omega
    have la := itoaA_len (wd : Int)
    have lb := itoaA_len (ht : Int)
    have lc := itoaA_len s
    simp (disch := as_aux_lemma => first | omega | simp only [hDs] <;> omega | simp [isCell]) [hRs, takeMarks, resA, resAll, resOne, Value.cells, hE, c1]
    refine w341 (n := (wd : Int)) (by omega) ?_
    simp (disch := as_aux_lemma => first | omega | simp only [hDs] <;> omega | simp [isCell]) [hRs, takeMarks, resA, resAll, resOne, Value.cells, c1, strAdd (x := [103, 114, 105, 100, 32]) (y := itoaA wd) (by simp; omega), strAdd (x := 103 :: 114 :: 105 :: 100 :: 32 :: itoaA wd) (y := [32]) (by simp; omega)]
    refine w341 (n := (ht : Int)) (by omega) ?_
    simp (disch := as_aux_lemma => first | omega | simp only [hDs] <;> omega | simp [isCell]) [hRs, takeMarks, resA, resAll, resOne, Value.cells, c1]
    simp (disch := as_aux_lemma => first | omega | simp only [hDs] <;> omega | simp [isCell]) [hRs, takeMarks, resA, resAll, resOne, Value.cells, c1, strAdd (x := 103 :: 114 :: 105 :: 100 :: 32 :: (itoaA wd ++ [32])) (y := itoaA ht) (by simp; omega), strAdd (x := 103 :: 114 :: 105 :: 100 :: 32 :: (itoaA wd ++ 32 :: itoaA ht)) (y := [32]) (by simp; omega)]
    refine w341 (n := s) (by omega) ?_
    simp (disch := as_aux_lemma => first | omega | simp only [hDs] <;> omega | simp [isCell]) [hRs, takeMarks, resA, resAll, resOne, Value.cells, strAdd (x := 103 :: 114 :: 105 :: 100 :: 32 :: (itoaA wd ++ 32 :: (itoaA ht ++ [32]))) (y := itoaA s) (by simp; omega), strAdd (x := 103 :: 114 :: 105 :: 100 :: 32 :: (itoaA wd ++ 32 :: (itoaA ht ++ 32 :: itoaA s))) (y := [10]) (by simp; omega)]
    have hhl := headL_len (w := (wd : Int)) (h := (ht : Int)) (s := s)
    have hhe : headL wd ht s = 103 :: 114 :: 105 :: 100 :: 32 :: (itoaA wd ++ 32 :: (itoaA ht ++ 32 :: (itoaA s ++ [10]))) := by
      simp [headL, lineL, Lib.join_cons, Lib.joinTail]
    rw [← hhe]
    refine loop307 (A0 := A1) (wd := wd) (m := m) (X1 := A.n) (h := (ht : Int)) (s := s) (zs := zs) (sl := sl) (hd := headL wd ht s) (by omega) (by omega) (f1.rdS hsl) hzr c1 (by omega) (by omega) (fun T' A2 e2 t5 => ?_) m 0 (by omega) ⟨Nat.le_refl _, fun _ _ => rfl⟩ ?_ ?_ ?_
    · simp (disch := as_aux_lemma => first | omega | simp only [hDs] <;> omega | simp [isCell]) [hRs, takeMarks, resA, resAll, resOne, Value.cells, t5]
      refine hV _ _ _ (f1.trans e2) (.inr ⟨hE, ?_, rfl⟩)
      rw [hm1, accR_rows (by omega), textL, Int.toNat_natCast, Int.toNat_natCast]
    · simp
    · simp [accR]
    · simp
  · simp (disch := as_aux_lemma => first | omega | simp only [hDs] <;> omega | simp [isCell]) [hRs, takeMarks, resA, resAll, resOne, Value.cells, hE]
    exact hV _ _ _ f1 (.inl ⟨hE, rfl, rfl⟩)
end
end Go.Ab.Grid
set_option maxRecDepth 100000
namespace Go.Ab.Grid
open Go Go.Ab
def splitL (c : UInt8) : List UInt8 → List UInt8 → List (List UInt8)
  | cur, [] => [cur]
  | cur, x :: l => if x = c then cur :: splitL c [] l else splitL c (cur ++ [x]) l
theorem splitL_len {c : UInt8} : ∀ {l cur : List UInt8}, 0 < (splitL c cur l).length ∧ (splitL c cur l).length ≤ l.length + 1
  | [], cur => by simp [splitL]
  | x :: l, cur => by
    rw [splitL]
    split
    · have := splitL_len (c := c) (l := l) (cur := [])
      simp
      omega
    · have := splitL_len (c := c) (l := l) (cur := cur ++ [x])
      simp
      omega
theorem splitL_mem {c : UInt8} : ∀ {l cur w : List UInt8}, w ∈ splitL c cur l → w.length ≤ cur.length + l.length
  | [], cur, w, h => by simp [splitL] at h; subst h; simp
  | x :: l, cur, w, h => by
    rw [splitL] at h
    split at h
    · rcases List.mem_cons.1 h with rfl | h
      · simp
      · have := splitL_mem h
        simp at this ⊢
        omega
    · have := splitL_mem h
      simp at this ⊢
      omega
theorem strSl_pre {pre rest : List UInt8} {i : Nat} (h : i ≤ pre.length) : strSlA (strV (pre ++ rest)) (some (i : Int)) (fun _ => some (pre.length : Int)) = some (strV (pre.drop i)) := by
  unfold strSlA
  simp only
  have hs : (0 : Int) ≤ (i : Int) ∧ (i : Int) ≤ (pre.length : Int) ∧ (pre.length : Int) ≤ ((⟨⟨pre ++ rest⟩⟩ : ByteArray).size : Int) := ⟨by omega, by omega, by show (pre.length : Int) ≤ (((pre ++ rest).length : Nat) : Int); rw [List.length_append]; omega⟩
  rw [if_pos hs]
  have : ((pre.length : Int) - (i : Int)).toNat = pre.length - i := by omega
  rw [this]
  simp only [Int.toNat_natCast]
  rw [List.drop_append_of_le_length h, List.take_append_of_le_length (by simp), List.take_of_length_le (by simp)]
theorem strIdx_pre {pre rest : List UInt8} {x : UInt8} : strIdxA (strV (pre ++ x :: rest)) (.int .i64 (pre.length : Int)) = some (.int .u8 x.toNat) := by
  simp [strIdxA, strV]
theorem u8_eql {a b : Int} : binA .eql (.int .u8 a) (.int .u8 b) = some (.bool (decide (a = b))) := by simp [binA, intA, kEq]; rfl
theorem u8_lss {a b : Int} : binA .lss (.int .u8 a) (.int .u8 b) = some (.bool (decide (a < b))) := by simp [binA, intA, kEq]
theorem u8_gtr {a b : Int} : binA .gtr (.int .u8 a) (.int .u8 b) = some (.bool (decide (b < a))) := by simp [binA, intA, kEq]
theorem u8_sub {a b : Int} : binA .sub (.int .u8 a) (.int .u8 b) = some (.int .u8 (wr .u8 (a - b))) := by simp [binA, intA, kEq]
section
variable {g : Nat} {rd : Option Nat} {T : List Value} {D : List Nat} {A : Hp} {Q : Ex → St → Prop} {V : Value → Hp → Prop}
theorem loop346 {A0 : Hp} {l : List UInt8} {c : UInt8} {N : Nat} {R : List (List UInt8)} (hN : A0.n = N) (hg : g ≤ N) (hl : l.length ≤ 1000000)
    (hQ : ∀ T' A' sv, Ext' A0 A' → AccS N A' 1 (R.map strV) sv → tget T' 5 = sv → Q (.exit 0) ⟨T', D, A'⟩) :
    ∀ (rest pre : List UInt8) (ws : List (List UInt8)) (i j : Nat) {T : List Value} {A : Hp} (sv : Value), pre ++ rest = l → i ≤ pre.length → j = pre.length → Ext' A0 A → AccS N A 1 (ws.map strV) sv → ws ++ splitL c (pre.drop i) rest = R → ws.length ≤ pre.length →
      tget T 0 = strV l → tget T 1 = .int .u8 c.toNat → tget T 5 = sv → tget T 6 = .int .i64 i → tget T 7 = .int .i64 j → W AP KL g rd (.loop body346) ⟨T, D, A⟩ Q := by
  intro rest
  have z1 : zeros 1 [strV []] = [strV []] := rfl
  have hsz : (⟨⟨l⟩⟩ : ByteArray).size = l.length := rfl
  induction rest with
  | nil =>
    intro pre ws i j T A sv hp hi hj e hacc hR hw t0 t1 t5 t6 t7
    simp only [List.append_nil] at hp
    subst hp
    subst hj
    have hAn := e.1
    obtain ⟨w, hw'⟩ : ∃ w, w = pre.drop i := ⟨_, rfl⟩
    obtain ⟨sv', A1, a1, a2, a3, a4⟩ := append_acc (g := g) (bytes := 16) (y := A.n) (A := A.push (.cells [strV w] false)) (new := [strV w]) (ro := false) (n := ws.length)
      (hacc.mono (Ext'.push A _).2) (by omega) (by simp; omega) get_push_new rfl (by decide) rfl (by simp) (by unfold room; omega)
    rw [show ws.map strV ++ [strV w] = R.map strV by rw [← hR, hw']; simp [splitL]] at a2
    have hslc : strSlA (strV pre) (some (i : Int)) (fun _ => some (pre.length : Int)) = some (strV w) := by
      have := strSl_pre (rest := []) hi
      rw [List.append_nil] at this
      rw [hw']
      exact this
    have e5 : wr .i64 ((pre.length : Int) + 1) = ((pre.length + 1 : Nat) : Int) := by rw [wrId (by omega) (by omega)]; simp
    simp at a4
    have e1 : Ext' A0 A1 := ⟨by omega, fun z hz => by rw [a3 z (by omega), get_push_old (by omega), e.2 z hz]⟩
    rw [W_loop]
    simp (disch := as_aux_lemma => first | omega | simp only [hDs] <;> omega | simp [isCell]) [hRs, takeMarks, resA, resAll, resOne, Value.cells, body346, t0, t1, t5, t6, t7, lenTV, goInt, hsz, boundA, intOfA, hslc, slitA, z1, fillA, setRange, storeB_cells, setRange_all, set_push_eq, a1, e5]
    rw [W_loop]
    simp (disch := as_aux_lemma => first | omega | simp only [hDs] <;> omega | simp [isCell]) [hRs, takeMarks, resA, resAll, resOne, Value.cells, body346, t0, lenTV, goInt, hsz, show ¬ ((pre.length : Int) + 1 ≤ pre.length) by omega]
    refine hQ _ _ sv' e1 a2 ?_
    simp
  | cons x rest ih =>
    intro pre ws i j T A sv hp hi hj e hacc hR hw t0 t1 t5 t6 t7
    subst hj
    have hpl : pre.length + rest.length + 1 = l.length := by rw [← hp]; simp; omega
    have hAn := e.1
    have e5 : wr .i64 ((pre.length : Int) + 1) = ((pre.length + 1 : Nat) : Int) := by rw [wrId (by omega) (by omega)]; simp
    have hix : strIdxA (strV l) (.int .i64 (pre.length : Int)) = some (.int .u8 x.toNat) := by rw [← hp]; exact strIdx_pre
    have hp2 : (pre ++ [x]) ++ rest = l := by rw [← hp]; simp
    by_cases hx : x = c
    · subst hx
      obtain ⟨w, hw'⟩ : ∃ w, w = pre.drop i := ⟨_, rfl⟩
      obtain ⟨sv', A1, a1, a2, a3, a4⟩ := append_acc (g := g) (bytes := 16) (y := A.n) (A := A.push (.cells [strV w] false)) (new := [strV w]) (ro := false) (n := ws.length)
        (hacc.mono (Ext'.push A _).2) (by omega) (by simp; omega) get_push_new rfl (by decide) rfl (by simp) (by unfold room; omega)
      rw [show ws.map strV ++ [strV w] = (ws ++ [w]).map strV by simp] at a2
      have hslc : strSlA (strV l) (some (i : Int)) (fun _ => some (pre.length : Int)) = some (strV w) := by
        have := strSl_pre (rest := x :: rest) hi
        rw [hw', ← hp]
        exact this
      simp at a4
      have e1 : Ext' A0 A1 := ⟨by omega, fun z hz => by rw [a3 z (by omega), get_push_old (by omega), e.2 z hz]⟩
      rw [W_loop]
      simp (disch := as_aux_lemma => first | omega | simp only [hDs] <;> omega | simp [isCell]) [hRs, takeMarks, resA, resAll, resOne, Value.cells, body346, t0, t1, t5, t6, t7, lenTV, goInt, hsz, show (pre.length : Int) ≤ l.length by omega, show pre.length ≤ l.length by omega, show ¬ (pre.length : Int) = l.length by omega, show ¬ pre.length = l.length by omega, hix, u8_eql, boundA, intOfA, hslc, slitA, z1, fillA, setRange, storeB_cells, setRange_all, set_push_eq, a1, e5]
      refine ih (pre ++ [x]) (ws ++ [w]) (pre.length + 1) (pre.length + 1) sv' hp2 (by simp) (by simp) e1 a2 ?_ (by simp; omega) ?_ ?_ ?_ ?_ ?_
      · rw [← hR, splitL, if_pos rfl, hw', show (pre ++ [x]).drop (pre.length + 1) = [] from List.drop_of_length_le (by simp)]
        simp
      · simp [t0]
      · simp [t1]
      · simp
      · simp
      · simp
    · have hne : ¬ (x.toNat : Int) = (c.toNat : Int) := fun h => hx (UInt8.toNat_inj.1 (Int.ofNat.inj h))
      rw [W_loop]
      simp (disch := as_aux_lemma => first | omega | simp only [hDs] <;> omega | simp [isCell]) [hRs, takeMarks, resA, resAll, resOne, Value.cells, body346, t0, t1, t5, t6, t7, lenTV, goInt, hsz, show (pre.length : Int) ≤ l.length by omega, show pre.length ≤ l.length by omega, show ¬ (pre.length : Int) = l.length by omega, show ¬ pre.length = l.length by omega, hix, u8_eql, decide_eq_false hne, e5]
      refine ih (pre ++ [x]) ws i (pre.length + 1) sv hp2 (by simp; omega) (by simp) e hacc ?_ (by simp; omega) ?_ ?_ ?_ ?_ ?_
      · rw [← hR, splitL, if_neg hx, List.drop_append_of_le_length hi]
      · simp [t0]
      · simp [t1]
      · simp [t5]
      · simp [t6]
      · simp
theorem w346 {l : List UInt8} {c : UInt8} (hl : l.length ≤ 1000000) (hg : g ≤ A.n) (hV : ∀ A' sv, Ext' A A' → RdS A' 1 (splitL c [] l).length ((splitL c [] l).map strV) sv → (∀ z, blkOf sv = some z → A.n ≤ z) → V sv A') : WF AP KL g 346 [strV l, .int .u8 c.toNat] A V := by
  rw [WF_body (show KL 346 = none from rfl) (show AP 346 = some F346 from rfl)]
  simp (disch := as_aux_lemma => first | omega | simp only [hDs] <;> omega | simp [isCell]) [hRs, takeMarks, resA, resAll, resOne, Value.cells, F346]
  refine loop346 (A0 := A) (l := l) (c := c) (R := splitL c [] l) rfl hg hl (fun T' A' sv e hacc t5 => ?_) l [] [] 0 0 (.slice none 0 0) rfl (by simp) rfl ⟨Nat.le_refl _, fun _ _ => rfl⟩ AccS.nil (by simp) (by simp) ?_ ?_ ?_ ?_ ?_
  · simp (disch := as_aux_lemma => first | omega | simp only [hDs] <;> omega | simp [isCell]) [hRs, takeMarks, resA, resAll, resOne, Value.cells, t5]
    obtain ⟨n, hr⟩ := hacc.rdS
    have hn : (splitL c [] l).length = n := by have := hr.1; simpa using this
    exact hV _ _ e (by rw [hn]; exact hr) fun z hz => (hacc.blk_ge hz).1
  all_goals simp
end
end Go.Ab.Grid
set_option maxRecDepth 100000
namespace Go.Ab.Grid
open Go Go.Ab
@[simp] theorem GuardW_un {AP : Nat → Option AFunc} {K : Nat → Option Spec} {g : Nat} {dst : Option Nat} {op : AOp} {l : List AOper} {T : List Value} {A : Hp} {R : List Value → Hp → Prop} {b : Bool} :
    GuardW AP K g dst op l T A R b undef = WO AP K g l (putA dst T undef) A R := rfl
section
variable {g : Nat} {rd : Option Nat} {T : List Value} {D : List Nat} {A : Hp} {Q : Ex → St → Prop} {V : Value → Hp → Prop}
end
end Go.Ab.Grid
set_option maxRecDepth 100000
namespace Go.Ab.Grid
open Go Go.Ab
section
variable {g : Nat} {rd : Option Nat} {T : List Value} {D : List Nat} {A : Hp} {Q : Ex → St → Prop} {V : Value → Hp → Prop}
end
end Go.Ab.Grid
set_option maxRecDepth 100000
namespace Go.Ab.Grid
open Go Go.Ab
section
variable {g : Nat} {rd : Option Nat} {T : List Value} {D : List Nat} {A : Hp} {Q : Ex → St → Prop} {V : Value → Hp → Prop}
theorem w59i {x lo hi : Int} : WF AP KL g 59 [.int .i64 x, .int .i64 lo, .int .i64 hi] A V ↔ V (.bool (decide (lo ≤ x) && decide (x ≤ hi))) A := by
  rw [WF_body (show KL 59 = none from rfl) (show AP 59 = some F59 from rfl)]
  by_cases h : lo ≤ x
  · simp (disch := as_aux_lemma => first | omega | simp only [hDs] <;> omega | simp [isCell]) [hRs, takeMarks, resA, resAll, resOne, Value.cells, F59, h]
  · simp (disch := as_aux_lemma => first | omega | simp only [hDs] <;> omega | simp [isCell]) [hRs, takeMarks, resA, resAll, resOne, Value.cells, F59, h]
end
end Go.Ab.Grid
set_option maxRecDepth 100000
namespace Go.Ab.Grid
open Go Go.Ab
def pa347 : ACode := (.ops [
oP 4 (.move (oK 0)),
oP 5 (.move (.k (.bool false)))])
def pb347 : ACode := (.seq
 (.ops [
oM 10 0,
oP 11 (.lenT (.t 10)),
oC 12 .gtr 11 12])
 (.cond (.t 12)
 (.seq
 (.ops [
oP 4 (.move (oK 0)),
oP 5 (.move (.k (.bool false)))])
 .ret)
 .skip))
def pc347 : ACode := (.ops [
oM 13 0,
oP 14 (.lenT (.t 13)),
oC 15 .gtr 14 1,
oM 16 15,
oN 17 16 true 0,
oQ 18 16 true (.strIdx (.t 17) (oK 0)),
oQ 19 16 true (.bin .eql (.t 18) (.k (.int .u8 45))),
oP 20 (.pick (.t 16) (.t 19) (.k (.bool false))),
oP 6 (.move (oK 0)),
oM 7 20])
def pd347 : ACode := (.ops [
oM 21 0,
oM 8 21])
def pe347 : ACode := (.seq
 (.ops [
oM 22 7])
 (.cond (.t 22)
 (.ops [
oM 23 0,
oP 24 (.strSl (.t 23) (some (oK 1)) none),
oM 8 24])
 .skip))
def pf347 : ACode := (.seq
 (.ops [
oP 9 (.move (oK 0))])
 (.block 0
 (.loop
 (.seq
 (.seq
 (.ops [
oM 25 9,
oM 26 8,
oP 27 (.lenT (.t 26)),
oB 28 .lss 25 27])
 (.cond (.t 28)
 .skip
 (.exit 0)))
 (.seq
 (.block 1
 (.seq
 (.seq
 (.ops [
oM 31 8,
oM 32 9,
oP 33 (.strIdx (.t 31) (.t 32)),
oP 34 (.bin .lss (.t 33) (.k (.int .u8 48))),
oM 35 34,
oN 36 35 false 8,
oN 37 35 false 9,
oQ 38 35 false (.strIdx (.t 36) (.t 37)),
oQ 39 35 false (.bin .gtr (.t 38) (.k (.int .u8 57))),
oP 40 (.pick (.t 35) (.k (.bool true)) (.t 39))])
 (.cond (.t 40)
 (.seq
 (.ops [
oP 4 (.move (oK 0)),
oP 5 (.move (.k (.bool false)))])
 .ret)
 .skip))
 (.ops [
oM 41 6,
oP 42 (.bin .mul (oK 10) (.t 41)),
oM 43 8,
oM 44 9,
oP 45 (.strIdx (.t 43) (.t 44)),
oP 46 (.bin .sub (.t 45) (.k (.int .u8 48))),
oP 47 (.toInt .i64 (.t 46)),
oB 48 .add 42 47,
oM 6 48])))
 (.ops [
oM 29 9,
oC 30 .add 29 1,
oM 9 30]))))))
def pg347 : ACode := (.seq
 (.seq
 (.ops [
oM 49 7])
 (.cond (.t 49)
 (.ops [
oM 50 6,
oP 51 (.neg (.t 50)),
oM 6 51])
 .skip))
 (.seq
 (.ops [
oM 52 6,
oM 53 6,
oM 54 1,
oP 55 (.neg (.t 54)),
oM 56 1,
oA 57 59 [.t 53, .t 55, .t 56] false,
oM 58 57,
oN 59 58 true 6,
oQ 60 58 true (.call (.k (.func (.func 341) ⟨[]⟩ ⟨[]⟩)) [.t 59] false),
oN 61 58 true 0,
oQ 62 58 true (.strOp .eql (.t 60) (.t 61)),
oP 63 (.pick (.t 58) (.t 62) (.k (.bool false))),
oM 4 52,
oM 5 63])
 .ret))
theorem AP347 : AP 347 = some (.fn 64 [.tmp 4, .tmp 5] (.seq pa347 (.seq pb347 (.seq pc347 (.seq pd347 (.seq pe347 (.seq pf347 pg347))))))) := rfl
def digF : Nat → List UInt8 → Option Nat
  | v, [] => some v
  | v, x :: l => if x.toNat < 48 ∨ 57 < x.toNat then none else digF (10 * v + (x.toNat - 48)) l
def negB : List UInt8 → Bool
  | x :: _ :: _ => decide (x = 45)
  | _ => false
def dsF (s : List UInt8) : List UInt8 := if negB s then s.drop 1 else s
def sgnF (s : List UInt8) (v : Nat) : Int := if negB s then -(v : Int) else v
def numF (most : Int) (s : List UInt8) : Int × Bool := if 12 < s.length then (0, false) else match digF 0 (dsF s) with
  | none => (0, false)
  | some v => (sgnF s v, decide (-most ≤ sgnF s v) && decide (sgnF s v ≤ most) && decide (itoaA (sgnF s v) = s))
theorem wru8 {n : Int} (h0 : 0 ≤ n) (h1 : n < 256) : wr .u8 n = n := by
  rw [wr_eq, IntKind.wrap_u8]; omega
section
variable {g : Nat} {rd : Option Nat} {T : List Value} {D : List Nat} {A : Hp} {Q : Ex → St → Prop} {V : Value → Hp → Prop}
theorem loop347 {ds : List UInt8} {s0 m0 b0 : Value} (hl : ds.length ≤ 12)
    (hR : ∀ T', digF 0 ds = none → tget T' 4 = .int .i64 0 → tget T' 5 = .bool false → Q .ret ⟨T', D, A⟩)
    (hQ : ∀ T' v, digF 0 ds = some v → v < 10 ^ 12 → tget T' 6 = .int .i64 v → tget T' 0 = s0 → tget T' 1 = m0 → tget T' 7 = b0 → Q (.exit 0) ⟨T', D, A⟩) :
    ∀ (rest pre : List UInt8) (v i : Nat) {T : List Value}, pre ++ rest = ds → i = pre.length → v < 10 ^ i → digF v rest = digF 0 ds →
      tget T 0 = s0 → tget T 1 = m0 → tget T 7 = b0 → tget T 6 = .int .i64 v → tget T 8 = strV ds → tget T 9 = .int .i64 i → W AP KL g rd (.loop body347) ⟨T, D, A⟩ Q := by
  intro rest
  have hsz : (⟨⟨ds⟩⟩ : ByteArray).size = ds.length := rfl
  induction rest with
  | nil =>
    intro pre v i T hp hi hv hd t0 t1 t7 t6 t8 t9
    subst hi
    simp only [List.append_nil] at hp
    subst hp
    rw [W_loop]
    simp (disch := as_aux_lemma => first | omega | simp only [hDs] <;> omega | simp [isCell]) [hRs, takeMarks, resA, resAll, resOne, Value.cells, body347, t8, t9, lenTV, goInt, hsz]
    have hp := Nat.pow_le_pow_right (show 0 < 10 by decide) hl
    refine hQ _ v hd.symm (by omega) ?_ ?_ ?_ ?_
    · simp [t6]
    · simp [t0]
    · simp [t1]
    · simp [t7]
  | cons x rest ih =>
    intro pre v i T hp hi hv hd t0 t1 t7 t6 t8 t9
    have hpl : i + rest.length + 1 = ds.length := by rw [← hp, hi]; simp; omega
    have hix : strIdxA (strV ds) (.int .i64 (i : Int)) = some (.int .u8 x.toNat) := by rw [← hp, hi]; exact strIdx_pre
    have hp2 : (pre ++ [x]) ++ rest = ds := by rw [← hp]; simp
    have e5 : wr .i64 ((i : Int) + 1) = ((i + 1 : Nat) : Int) := by rw [wrId (by omega) (by omega)]; simp
    rw [digF] at hd
    have hx := x.toNat_lt
    have hpw := Nat.pow_le_pow_right (show 0 < 10 by decide) (show i + 1 ≤ 12 by omega)
    rw [Nat.pow_succ] at hpw
    rw [W_loop]
    by_cases h1 : x.toNat < 48
    · rw [if_pos (.inl h1)] at hd
      simp (disch := as_aux_lemma => first | omega | simp only [hDs] <;> omega | simp [isCell]) [hRs, takeMarks, resA, resAll, resOne, Value.cells, body347, t8, t9, lenTV, goInt, hsz, show (i : Int) < ds.length by omega, show i < ds.length by omega, hix, u8_lss, show (x.toNat : Int) < 48 by omega]
      refine hR _ hd.symm ?_ ?_
      · simp
      · simp
    · by_cases h2 : 57 < x.toNat
      · rw [if_pos (.inr h2)] at hd
        simp (disch := as_aux_lemma => first | omega | simp only [hDs] <;> omega | simp [isCell]) [hRs, takeMarks, resA, resAll, resOne, Value.cells, body347, t8, t9, lenTV, goInt, hsz, show (i : Int) < ds.length by omega, show i < ds.length by omega, hix, u8_lss, u8_gtr, decide_eq_false (show ¬ (x.toNat : Int) < 48 by omega), decide_eq_true (show (57 : Int) < x.toNat by omega)]
        refine hR _ hd.symm ?_ ?_
        · simp
        · simp
      · rw [if_neg (by omega)] at hd
        obtain ⟨d, hd'⟩ : ∃ d, d = x.toNat - 48 := ⟨_, rfl⟩
        rw [← hd'] at hd
        have e6 : wr .u8 ((x.toNat : Int) - 48) = (d : Int) := by rw [wru8 (by omega) (by omega)]; omega
        have e7 : wr .i64 (d : Int) = (d : Int) := wrId (by omega) (by omega)
        have e8 : wr .i64 (10 * (v : Int)) = 10 * (v : Int) := wrId (by omega) (by omega)
        have e9 : wr .i64 (10 * (v : Int) + d) = ((10 * v + d : Nat) : Int) := by rw [wrId (by omega) (by omega)]; simp
        simp (disch := as_aux_lemma => first | omega | simp only [hDs] <;> omega | simp [isCell]) [hRs, takeMarks, resA, resAll, resOne, Value.cells, body347, t6, t8, t9, lenTV, goInt, hsz, show (i : Int) < ds.length by omega, show i < ds.length by omega, hix, u8_lss, u8_gtr, u8_sub, decide_eq_false (show ¬ (x.toNat : Int) < 48 by omega), decide_eq_false (show ¬ (57 : Int) < x.toNat by omega), toIntA, e5, e6, e7, e8, e9]
        refine ih (pre ++ [x]) (10 * v + d) (i + 1) hp2 (by simp [hi]) ?_ hd ?_ ?_ ?_ ?_ ?_ ?_
        · rw [Nat.pow_succ]; omega
        · simp [t0]
        · simp [t1]
        · simp [t7]
        · simp
        · simp [t8]
        · simp
theorem pf347_eq : pf347 = .seq (.ops [oP 9 (.move (oK 0))]) (.block 0 (.loop body347)) := rfl
theorem rest347 {s : List UInt8} {most : Int} (hm : 0 ≤ most ∧ most ≤ 1200000) (hl : ¬ 12 < s.length) (hV : V (.tuple ⟨[.int .i64 (numF most s).1, .bool (numF most s).2]⟩) A) {T : List Value}
    (t0 : tget T 0 = strV s) (t1 : tget T 1 = .int .i64 most) (t7 : tget T 7 = .bool (negB s)) (t6 : tget T 6 = .int .i64 0) (t8 : tget T 8 = strV (dsF s)) :
    W AP KL g none pf347 ⟨T, [], A⟩ (SeqQ AP KL g none pg347 (FinQ [.tmp 4, .tmp 5] V)) := by
  unfold numF at hV
  rw [if_neg hl] at hV
  have hds : (dsF s).length ≤ 12 := by unfold dsF; split; simp; omega; omega
  have em : wr .i64 (-most) = -most := wrId (by omega) (by omega)
  simp (disch := as_aux_lemma => first | omega | simp only [hDs] <;> omega | simp [isCell]) [hRs, takeMarks, resA, resAll, resOne, Value.cells, pf347_eq]
  refine loop347 (ds := dsF s) (s0 := strV s) (m0 := .int .i64 most) (b0 := .bool (negB s)) hds (fun T' hd t4 t5 => ?_) (fun T' v hd hv u6 u0 u1 u7 => ?_) (dsF s) [] 0 0 rfl rfl (by omega) rfl ?_ ?_ ?_ ?_ ?_ ?_
  · rw [hd] at hV
    simp (disch := as_aux_lemma => first | omega | simp only [hDs] <;> omega | simp [isCell]) [hRs, takeMarks, resA, resAll, resOne, Value.cells, t4, t5]
    exact hV
  · rw [hd] at hV
    simp only at hV
    obtain ⟨n, hn⟩ : ∃ n, n = sgnF s v := ⟨_, rfl⟩
    rw [← hn] at hV
    cases hb : negB s with
    | true =>
      have hn' : n = -(v : Int) := by rw [hn, sgnF, hb]; rfl
      have en : wr .i64 n = n := wrId (by omega) (by omega)
      by_cases hr : -most ≤ n ∧ n ≤ most
      · simp (disch := as_aux_lemma => first | omega | simp only [hDs] <;> omega | simp [isCell]) [hRs, takeMarks, resA, resAll, resOne, Value.cells, pg347, u7, hb, u6, en, ← hn', u0, u1, em, w59i, decide_eq_true hr.1, decide_eq_true hr.2]
        refine w341 (by omega) ?_
        simp (disch := as_aux_lemma => first | omega | simp only [hDs] <;> omega | simp [isCell]) [hRs, takeMarks, resA, resAll, resOne, Value.cells, u0, strEql]
        rw [decide_eq_true hr.1, decide_eq_true hr.2] at hV
        simpa using hV
      · simp (disch := as_aux_lemma => first | omega | simp only [hDs] <;> omega | simp [isCell]) [hRs, takeMarks, resA, resAll, resOne, Value.cells, pg347, u7, hb, u6, en, ← hn', u0, u1, em, w59i, show (decide (-most ≤ n) && decide (n ≤ most)) = false by simp; omega]
        rw [show (decide (-most ≤ n) && decide (n ≤ most)) = false by simp; omega] at hV
        simpa using hV
    | false =>
      have hn' : n = (v : Int) := by rw [hn, sgnF, hb]; rfl
      by_cases hr : -most ≤ n ∧ n ≤ most
      · simp (disch := as_aux_lemma => first | omega | simp only [hDs] <;> omega | simp [isCell]) [hRs, takeMarks, resA, resAll, resOne, Value.cells, pg347, u7, hb, u6, ← hn', u0, u1, em, w59i, decide_eq_true hr.1, decide_eq_true hr.2]
        refine w341 (by omega) ?_
        simp (disch := as_aux_lemma => first | omega | simp only [hDs] <;> omega | simp [isCell]) [hRs, takeMarks, resA, resAll, resOne, Value.cells, u0, strEql]
        rw [decide_eq_true hr.1, decide_eq_true hr.2] at hV
        simpa using hV
      · simp (disch := as_aux_lemma => first | omega | simp only [hDs] <;> omega | simp [isCell]) [hRs, takeMarks, resA, resAll, resOne, Value.cells, pg347, u7, hb, u6, ← hn', u0, u1, em, w59i, show (decide (-most ≤ n) && decide (n ≤ most)) = false by simp; omega]
        rw [show (decide (-most ≤ n) && decide (n ≤ most)) = false by simp; omega] at hV
        simpa using hV
  · simp [t0]
  · simp [t1]
  · simp [t7]
  · simp [t6]
  · simp [t8]
  · simp
theorem w347 {s : List UInt8} {most : Int} (hm : 0 ≤ most ∧ most ≤ 1200000) (hV : V (.tuple ⟨[.int .i64 (numF most s).1, .bool (numF most s).2]⟩) A) : WF AP KL g 347 [strV s, .int .i64 most] A V := by
  rw [WF_body (show KL 347 = none from rfl) AP347]
  have hsz : (⟨⟨s⟩⟩ : ByteArray).size = s.length := rfl
  by_cases hl : 12 < s.length
  · unfold numF at hV
    rw [if_pos hl] at hV
    simp (disch := as_aux_lemma => first | omega | simp only [hDs] <;> omega | simp [isCell]) [hRs, takeMarks, resA, resAll, resOne, Value.cells, pa347, pb347, lenTV, goInt, hsz, show (12 : Int) < s.length by omega, hl]
    exact hV
  · have hi : ¬ (12 : Int) < s.length := by omega
    have hb : negB s = true ∧ 1 < s.length ∧ strIdxA (strV s) (.int .i64 0) = some (.int .u8 45) ∨ negB s = false ∧ (s.length ≤ 1 ∨ 1 < s.length ∧ ∃ x : UInt8, strIdxA (strV s) (.int .i64 0) = some (.int .u8 x.toNat) ∧ ¬ (x.toNat : Int) = 45) := by
      rcases s with _ | ⟨x, _ | ⟨y, l⟩⟩
      · exact .inr ⟨rfl, .inl (by simp)⟩
      · exact .inr ⟨rfl, .inl (by simp)⟩
      · by_cases hx : x = 45
        · subst hx
          exact .inl ⟨rfl, by simp, strIdx_pre (pre := [])⟩
        · refine .inr ⟨by simp [negB, hx], .inr ⟨by simp, x, strIdx_pre (pre := []), fun h => hx (UInt8.toNat_inj.1 (Int.ofNat.inj h))⟩⟩
    rcases hb with ⟨hn, h1, h0⟩ | ⟨hn, h1 | ⟨h1, x, h0, hx⟩⟩
    · have hsl : strSlA (strV s) (some 1) (fun n => some (n : Int)) = some (strV (s.drop 1)) := strSl_from (j := 1) (by omega)
      simp (disch := as_aux_lemma => first | omega | simp only [hDs] <;> omega | simp [isCell]) [hRs, takeMarks, resA, resAll, resOne, Value.cells, pa347, pb347, pc347, pd347, pe347, lenTV, goInt, hsz, hi, hl, show (1 : Int) < s.length by omega, h1, h0, u8_eql, boundA, intOfA, hsl]
      refine rest347 hm hl hV ?_ ?_ ?_ ?_ ?_
      · simp
      · simp
      · simp [hn]
      · simp
      · simp [dsF, hn]
    · simp (disch := as_aux_lemma => first | omega | simp only [hDs] <;> omega | simp [isCell]) [hRs, takeMarks, resA, resAll, resOne, Value.cells, pa347, pb347, pc347, pd347, pe347, lenTV, goInt, hsz, hi, hl, show ¬ (1 : Int) < s.length by omega, show ¬ 1 < s.length by omega]
      refine rest347 hm hl hV ?_ ?_ ?_ ?_ ?_
      · simp
      · simp
      · simp [hn]
      · simp
      · simp [dsF, hn]
    · simp (disch := as_aux_lemma => first | omega | simp only [hDs] <;> omega | simp [isCell]) [hRs, takeMarks, resA, resAll, resOne, Value.cells, pa347, pb347, pc347, pd347, pe347, lenTV, goInt, hsz, hi, hl, show (1 : Int) < s.length by omega, h1, h0, u8_eql, decide_eq_false hx]
      refine rest347 hm hl hV ?_ ?_ ?_ ?_ ?_
      · simp
      · simp
      · simp [hn]
      · simp
      · simp [dsF, hn]
end
end Go.Ab.Grid
set_option maxRecDepth 100000
namespace Go.Ab.Grid
open Go Go.Ab
def dotF : List UInt8 → List UInt8 → Option (List UInt8 × List UInt8)
  | pre, x :: y :: l => if [x, y] = [46, 46] then some (pre, l) else dotF (pre ++ [x]) (y :: l)
  | _, _ => none
def spanF (s : List UInt8) : Int × Int × Bool := match dotF [] s with
  | some (p, q) => ((numF 1200000 p).1, (numF 1200000 q).1, (numF 1200000 p).2 && (numF 1200000 q).2)
  | none => ((numF 1200000 s).1, (numF 1200000 s).1, (numF 1200000 s).2)
theorem strSl_mid {pre mid rest : List UInt8} {i j : Nat} (hi : i = pre.length) (hj : j = i + mid.length) : strSlA (strV (pre ++ mid ++ rest)) (some (i : Int)) (fun _ => some (j : Int)) = some (strV mid) := by
  have := strSl_pre (pre := pre ++ mid) (rest := rest) (i := i) (by rw [List.length_append]; omega)
  rw [List.length_append, ← hi, ← hj, hi, List.drop_left] at this
  rw [hi]
  exact this
section
variable {g : Nat} {rd : Option Nat} {T : List Value} {D : List Nat} {A : Hp} {Q : Ex → St → Prop} {V : Value → Hp → Prop}
theorem loop348 {s : List UInt8} {X2 : Nat} (hl : s.length ≤ 1000000) (hg : g ≤ X2) (hA : A.get X2 = some (.cells [.int .i64 0, .int .i64 0] false))
    (hR : ∀ T' p q, dotF [] s = some (p, q) → tget T' 2 = .pointer (some ⟨X2, 0, none⟩) → tget T' 3 = .bool ((numF 1200000 p).2 && (numF 1200000 q).2) → Q .ret ⟨T', D, A.set X2 (some (.cells [.int .i64 (numF 1200000 p).1, .int .i64 (numF 1200000 q).1] false))⟩)
    (hQ : ∀ T', dotF [] s = none → tget T' 0 = strV s → tget T' 2 = .pointer (some ⟨X2, 0, none⟩) → Q (.exit 0) ⟨T', D, A⟩) :
    ∀ (rest pre : List UInt8) (i : Nat) {T : List Value}, pre ++ rest = s → i = pre.length → dotF pre rest = dotF [] s →
      tget T 0 = strV s → tget T 2 = .pointer (some ⟨X2, 0, none⟩) → tget T 4 = .int .i64 i → W AP KL g rd (.loop body348) ⟨T, D, A⟩ Q := by
  intro rest
  have hsz : (⟨⟨s⟩⟩ : ByteArray).size = s.length := rfl
  have hXn := Hp.lt_of_get hA
  induction rest with
  | nil =>
    intro pre i T hp hi hd t0 t2 t4
    have hpl : i = s.length := by rw [← hp, hi]; simp
    have e1 : wr .i64 ((i : Int) + 1) = (i : Int) + 1 := wrId (by omega) (by omega)
    rw [W_loop]
    simp (disch := as_aux_lemma => first | omega | simp only [hDs] <;> omega | simp [isCell]) [hRs, takeMarks, resA, resAll, resOne, Value.cells, body348, t0, t4, e1, lenTV, goInt, hsz, show ¬ ((i : Int) + 1 < s.length) by omega]
    exact hQ _ hd.symm (by simp [t0]) (by simp [t2])
  | cons x rest ih =>
    intro pre i T hp hi hd t0 t2 t4
    have hi1 : i + 1 ≤ s.length := by rw [← hp, hi]; simp
    have e1 : wr .i64 ((i : Int) + 1) = (i : Int) + 1 := wrId (by omega) (by omega)
    rcases rest with _ | ⟨y, l⟩
    · have hpl : i + 1 = s.length := by rw [← hp, hi]; simp
      rw [W_loop]
      simp (disch := as_aux_lemma => first | omega | simp only [hDs] <;> omega | simp [isCell]) [hRs, takeMarks, resA, resAll, resOne, Value.cells, body348, t0, t4, e1, lenTV, goInt, hsz, show ¬ ((i : Int) + 1 < s.length) by omega]
      exact hQ _ hd.symm (by simp [t0]) (by simp [t2])
    · have hpl : i + l.length + 2 = s.length := by rw [← hp, hi]; simp; omega
      have e2 : wr .i64 ((i : Int) + 2) = (i : Int) + 2 := wrId (by omega) (by omega)
      have hmid : strSlA (strV s) (some (i : Int)) (fun _ => some ((i : Int) + 2)) = some (strV [x, y]) := by
        have := strSl_mid (pre := pre) (mid := [x, y]) (rest := l) (i := i) (j := i + 2) hi rfl
        rw [show pre ++ [x, y] ++ l = s by rw [← hp]; simp] at this
        exact this
      rw [dotF] at hd
      rw [W_loop]
      by_cases h : [x, y] = [46, 46]
      · rw [if_pos h] at hd
        obtain ⟨rfl, rfl⟩ : x = 46 ∧ y = 46 := by simpa using h
        have hto : strSlA (strV s) (some 0) (fun _ => some (i : Int)) = some (strV pre) := by
          rw [strSl_to (by omega), hi, ← hp, List.take_left]
        have hfrom : strSlA (strV s) (some ((i : Int) + 2)) (fun n => some (n : Int)) = some (strV l) := by
          have := strSl_from (l := s) (j := i + 2) (by omega)
          rw [show s.drop (i + 2) = l by rw [← hp, hi, show pre ++ 46 :: 46 :: l = (pre ++ [46, 46]) ++ l by simp]; exact List.drop_left' (by simp)] at this
          exact this
        simp (disch := as_aux_lemma => first | omega | simp only [hDs] <;> omega | simp [isCell]) [hRs, takeMarks, resA, resAll, resOne, Value.cells, body348, t0, t4, e1, e2, lenTV, goInt, hsz, show (i : Int) + 1 < s.length by omega, boundA, intOfA, hmid, strEql, hto]
        refine w347 (most := 1200000) (by omega) ?_
        simp (disch := as_aux_lemma => first | omega | simp only [hDs] <;> omega | simp [isCell]) [hRs, takeMarks, resA, resAll, resOne, Value.cells, t0, t4, e2, boundA, intOfA, hfrom]
        refine w347 (most := 1200000) (by omega) ?_
        obtain ⟨a, ha⟩ : ∃ a, a = (numF 1200000 pre).1 := ⟨_, rfl⟩
        obtain ⟨b, hb⟩ : ∃ b, b = (numF 1200000 l).1 := ⟨_, rfl⟩
        have hR' := hR
        cases hb1 : (numF 1200000 pre).2 with
        | true =>
          simp (disch := as_aux_lemma => first | omega | simp only [hDs] <;> omega | simp [isCell]) [hRs, takeMarks, resA, resAll, resOne, Value.cells, t2, ← ha, ← hb, hb1, hA, fillA, storeB_cells, setRange, setRange_all]
          rw [ha, hb]
          refine hR _ pre l hd.symm ?_ ?_
          · simp [t2]
          · simp [hb1]
        | false =>
          simp (disch := as_aux_lemma => first | omega | simp only [hDs] <;> omega | simp [isCell]) [hRs, takeMarks, resA, resAll, resOne, Value.cells, t2, ← ha, ← hb, hb1, hA, fillA, storeB_cells, setRange, setRange_all]
          rw [ha, hb]
          refine hR _ pre l hd.symm ?_ ?_
          · simp [t2]
          · simp [hb1]
      · rw [if_neg h] at hd
        simp (disch := as_aux_lemma => first | omega | simp only [hDs] <;> omega | simp [isCell]) [hRs, takeMarks, resA, resAll, resOne, Value.cells, body348, t0, t4, e1, e2, lenTV, goInt, hsz, show (i : Int) + 1 < s.length by omega, boundA, intOfA, hmid, strEql, show (decide (x = 46) && decide (y = 46)) = false by simpa using h]
        refine ih (pre ++ [x]) (i + 1) (by rw [← hp]; simp) (by simp [hi]) hd ?_ ?_ ?_
        · simp [t0]
        · simp [t2]
        · simp
theorem w348 {s : List UInt8} (hl : s.length ≤ 1000000) (hg : g ≤ A.n) (hV : ∀ A', Ext' A A' → V (.tuple ⟨[.agg ⟨[.int .i64 (spanF s).1, .int .i64 (spanF s).2.1]⟩, .bool (spanF s).2.2]⟩) A') : WF AP KL g 348 [strV s] A V := by
  rw [WF_body (show KL 348 = none from rfl) (show AP 348 = some F348 from rfl)]
  obtain ⟨B, hB⟩ : ∃ B, B = A.push (.cells [.int .i64 0, .int .i64 0] false) := ⟨_, rfl⟩
  have b2 : B.get A.n = some (.cells [.int .i64 0, .int .i64 0] false) := by rw [hB]; exact get_push_new
  have nB : B.n = A.n + 1 := by rw [hB]; rfl
  have hset : ∀ c, Ext' A (B.set A.n c) := fun c => ⟨by simp; omega, fun z hz => by rw [get_set_ne (by omega) (by omega), hB, get_push_old hz]⟩
  simp (disch := as_aux_lemma => first | omega | simp only [hDs] <;> omega | simp [isCell]) [hRs, takeMarks, resA, resAll, resOne, Value.cells, F348, ← hB]
  refine loop348 (s := s) (X2 := A.n) hl hg b2 (fun T' p q hd t2 t3 => ?_) (fun T' hd t0 t2 => ?_) s [] 0 rfl rfl rfl ?_ ?_ ?_
  · have := hV _ (hset (some (.cells [.int .i64 (numF 1200000 p).1, .int .i64 (numF 1200000 q).1] false)))
    unfold spanF at this
    rw [hd] at this
    obtain ⟨a, ha⟩ : ∃ a, a = (numF 1200000 p).1 := ⟨_, rfl⟩
    obtain ⟨b, hb⟩ : ∃ b, b = (numF 1200000 q).1 := ⟨_, rfl⟩
    simp only at this
    rw [← ha, ← hb] at this ⊢
    simp (disch := as_aux_lemma => first | omega | simp only [hDs] <;> omega | simp [isCell]) [hRs, takeMarks, resA, resAll, resOne, Value.cells, t2, t3, get_set_same b2]
    exact this
  · simp (disch := as_aux_lemma => first | omega | simp only [hDs] <;> omega | simp [isCell]) [hRs, takeMarks, resA, resAll, resOne, Value.cells, t0]
    refine w347 (most := 1200000) (by omega) ?_
    have := hV _ (hset (some (.cells [.int .i64 (numF 1200000 s).1, .int .i64 (numF 1200000 s).1] false)))
    unfold spanF at this
    rw [hd] at this
    obtain ⟨a, ha⟩ : ∃ a, a = (numF 1200000 s).1 := ⟨_, rfl⟩
    simp only at this
    rw [← ha] at this
    simp (disch := as_aux_lemma => first | omega | simp only [hDs] <;> omega | simp [isCell]) [hRs, takeMarks, resA, resAll, resOne, Value.cells, t2, ← ha, b2, fillA, storeB_cells, setRange, setRange_all, get_set_same b2]
    exact this
  all_goals simp
end
end Go.Ab.Grid
set_option maxRecDepth 100000
namespace Go.Ab.Grid
open Go Go.Ab
def body309 : ACode := (.seq
 (.seq
 (.ops [
oM 76 13,
oM 77 4,
oP 78 (.len (.t 77)),
oB 79 .lss 76 78])
 (.cond (.t 79)
 .skip
 (.exit 0)))
 (.seq
 (.block 1
 (.seq
 (.ops [
oM 82 4,
oM 83 13,
oI 84 82 83 1,
oL 85 84,
oA 86 346 [.t 85, .k (.int .u8 32)] false,
oM 14 86])
 (.seq
 (.ops [
oP 15 (.move (oK 0))])
 (.block 2
 (.loop
 (.seq
 (.seq
 (.ops [
oM 87 15,
oM 88 14,
oP 89 (.len (.t 88)),
oB 90 .lss 87 89,
oM 91 90,
oN 92 91 true 4,
oN 93 91 true 13,
oQ 94 91 true (.idxS (.t 92) (.t 93) 1),
oQ 95 91 true (.load (.t 94) none),
⟨some 96, (some (91, true)), [], .strOp .neq (.t 95) (.k (.string ⟨⟨[]⟩⟩))⟩,
oP 97 (.pick (.t 91) (.t 96) (.k (.bool false)))])
 (.cond (.t 97)
 .skip
 (.exit 2)))
 (.seq
 (.block 3
 (.seq
 (.ops [
oM 101 14,
oM 102 15,
oI 103 101 102 1,
oL 104 103,
oA 105 348 [.t 104] false,
oM 100 105,
oX 106 100 0,
oX 107 100 1,
oP 16 (.alloc [.int .i64 0, .int .i64 0]),
oT 16 106 2,
oM 17 107])
 (.seq
 (.seq
 (.ops [
oM 108 17,
oP 109 (.not (.t 108))])
 (.cond (.t 109)
 (.seq
 (.ops [
oP 110 (.build [.int .i64 0, .int .i64 0, .int .i64 0, .slice none 0 0] []),
oT 2 110 4,
oP 3 (.move (oK 7))])
 .ret)
 .skip))
 (.ops [
oF 111 12 3,
oL 112 111,
oD 113 16 2,
oP 114 (.slit 1 2 [.int .i64 0, .int .i64 0] [(0, .t 113)]),
oP 115 (.append (.t 112) (.t 114) 2 16),
oF 116 12 3,
oT 116 115 1]))))
 (.ops [
oM 98 15,
oC 99 .add 98 1,
oM 15 99]))))))))
 (.ops [
oM 80 13,
oC 81 .add 80 1,
oM 13 81])))
def rowF : List (List UInt8) → List Int → Option (List Int)
  | [], zs => some zs
  | w :: ws, zs => if (spanF w).2.2 = true then rowF ws (zs ++ [(spanF w).1, (spanF w).2.1]) else none
theorem rowF_len : ∀ {ws : List (List UInt8)} {zs zs' : List Int}, rowF ws zs = some zs' → zs'.length = zs.length + 2 * ws.length
  | [], zs, zs', h => by rw [rowF] at h; obtain rfl := Option.some.inj h; simp
  | w :: ws, zs, zs', h => by
    rw [rowF] at h
    split at h
    · have := rowF_len h
      simp at this ⊢
      omega
    · cases h
theorem RdA.ext {M X4 : Nat} {G0 : Option Nat} {C A A' : Hp} {st : PSt} (h : RdA M X4 G0 C st A) (e : Ext' A A') : RdA M X4 G0 C st A' := by
  obtain ⟨sv, y1, y2, y3⟩ := h.x4
  have := e.1
  have := h.n
  exact ⟨fun z hz a b => by rw [e.2 z (by omega)]; exact h.fr z hz a b, by omega, ⟨sv, e.get y1, y2.mono e.2, y3⟩, h.ev⟩
def Bad9 (X2 X12 : Nat) (G0 : Option Nat) (C A : Hp) : Prop := C.n ≤ A.n ∧ A.get X2 = some zeroG ∧ ∀ z, z < C.n → z ≠ X12 → G0 ≠ some z → A.get z = C.get z
section
variable {g : Nat} {rd : Option Nat} {T : List Value} {D : List Nat} {A : Hp} {Q : Ex → St → Prop} {V : Value → Hp → Prop}
theorem inn309 {M X2 X12 F Fw i cL cW : Nat} {G0 : Option Nat} {C : Hp} {Ls ws : List (List UInt8)} {ro rw' : Bool} {L : List UInt8} {R : Option (List Int)} {w h s : Int}
    (hg : g ≤ M ∧ g ≤ X2 ∧ g ≤ X12) (hM : X2 < M ∧ X12 < M ∧ X2 ≠ X12 ∧ M ≤ C.n) (hG0 : ∀ z, G0 = some z → M ≤ z) (hX2 : C.get X2 = some zeroG)
    (hF : C.get F = some (.cells (Ls.map strV) ro)) (hF4 : F ≠ X12 ∧ G0 ≠ some F) (hW : C.get Fw = some (.cells (ws.map strV) rw')) (hW4 : Fw ≠ X12 ∧ G0 ≠ some Fw)
    (hi : i < Ls.length) (hL : Ls[i] = L) (hne : L ≠ []) (hwl : ∀ w, w ∈ ws → w.length ≤ 1000000) (hwn : ws.length ≤ 200000)
    (hQ : ∀ T' A' zs, R = some zs → RdA M X12 G0 C ⟨w, h, s, zs⟩ A' → (∀ t, t = 0 ∨ t = 2 ∨ t = 4 ∨ t = 12 ∨ t = 13 → tget T' t = tget T t) → Q (.exit 2) ⟨T', D, A'⟩)
    (hR : ∀ T' A', R = none → Bad9 X2 X12 G0 C A' → tget T' 2 = .pointer (some ⟨X2, 0, none⟩) → tget T' 3 = .int .i64 7 → Q .ret ⟨T', D, A'⟩)
    (t2 : tget T 2 = .pointer (some ⟨X2, 0, none⟩)) (t12 : tget T 12 = .pointer (some ⟨X12, 0, none⟩)) (t4 : tget T 4 = .slice (some ⟨F, 0, some 1⟩) Ls.length cL) (t13 : tget T 13 = .int .i64 i) :
    ∀ (k j : Nat) {T1 : List Value} {A : Hp} (zs : List Int), j + k = ws.length → RdA M X12 G0 C ⟨w, h, s, zs⟩ A → rowF (ws.drop j) zs = R → zs.length + 2 * k ≤ 1000000 → (∀ t, t = 0 ∨ t = 2 ∨ t = 4 ∨ t = 12 ∨ t = 13 → tget T1 t = tget T t) →
      tget T1 14 = .slice (some ⟨Fw, 0, some 1⟩) ws.length cW → tget T1 15 = .int .i64 j → W AP KL g rd (.loop body309i) ⟨T1, D, A⟩ Q := by
  intro k
  obtain ⟨g1, g2, g3⟩ := hg
  obtain ⟨l2, l12, n212, hcn⟩ := hM
  have hcL : cellAt (Ls.map strV) i = some (strV L) := by
    unfold cellAt
    rw [List.getElem?_map, List.getElem?_eq_getElem hi, hL]
    rfl
  induction k with
  | zero =>
    intro j T1 A zs hj hA hp hz hk t14 t15
    have : j = ws.length := by omega
    subst this
    rw [List.drop_length, rowF] at hp
    rw [W_loop]
    simp (disch := as_aux_lemma => first | omega | simp only [hDs] <;> omega | simp [isCell]) [hRs, takeMarks, resA, resAll, resOne, Value.cells, body309i, t14, t15]
    refine hQ _ _ zs hp.symm hA fun t ht => ?_
    rw [← hk t ht]
    rcases ht with rfl | rfl | rfl | rfl | rfl <;> simp
  | succ k ih =>
    intro j T1 A zs hj hA hp hz hk t14 t15
    have hjn : j < ws.length := by omega
    have hn := hA.n
    have e5 : wr .i64 ((j : Int) + 1) = ((j + 1 : Nat) : Int) := by rw [wrId (by omega) (by omega)]; simp
    have aF : A.get F = some (.cells (Ls.map strV) ro) := by rw [hA.fr F (Hp.lt_of_get hF) hF4.1 hF4.2]; exact hF
    have aW : A.get Fw = some (.cells (ws.map strV) rw') := by rw [hA.fr Fw (Hp.lt_of_get hW) hW4.1 hW4.2]; exact hW
    have a2 : A.get X2 = some zeroG := by rw [hA.fr X2 (by omega) n212 (fun h => by have := hG0 _ h; omega)]; exact hX2
    obtain ⟨wd, hwd⟩ : ∃ wd, wd = ws[j] := ⟨_, rfl⟩
    have hwdl := hwl wd (by rw [hwd]; exact List.getElem_mem _)
    have hcell : cellAt (ws.map strV) j = some (strV wd) := by
      unfold cellAt
      rw [List.getElem?_map, List.getElem?_eq_getElem hjn, hwd]
      rfl
    have hdrop : ws.drop j = wd :: ws.drop (j + 1) := by rw [List.drop_eq_getElem_cons hjn, hwd]
    rw [hdrop, rowF] at hp
    have k2 := (hk 2 (by simp)).trans t2
    have k4 := (hk 4 (by simp)).trans t4
    have k12 := (hk 12 (by simp)).trans t12
    have k13 := (hk 13 (by simp)).trans t13
    rw [W_loop]
    simp (disch := as_aux_lemma => first | omega | simp only [hDs] <;> omega | simp [isCell]) [hRs, takeMarks, resA, resAll, resOne, Value.cells, body309i, t14, t15, k4, k13, show (j : Int) < ws.length by omega, hjn, show (i : Int) < Ls.length by omega, hi, idxSA_ok, aF, aW, hcL, hcell, strNeq, decide_eq_false hne]
    refine w348 hwdl (by omega) fun A1 e1 => ?_
    have n1 := e1.1
    obtain ⟨a, ha⟩ : ∃ a, a = (spanF wd).1 := ⟨_, rfl⟩
    obtain ⟨b, hb⟩ : ∃ b, b = (spanF wd).2.1 := ⟨_, rfl⟩
    rw [← ha, ← hb] at hp
    obtain ⟨B, hB⟩ : ∃ B, B = A1.push (.cells [.int .i64 a, .int .i64 b] false) := ⟨_, rfl⟩
    have eB : Ext' A1 B := by rw [hB]; exact Ext'.push _ _
    have nB : B.n = A1.n + 1 := by rw [hB]; rfl
    have b16 : B.get A1.n = some (.cells [.int .i64 a, .int .i64 b] false) := by rw [hB]; exact get_push_new
    have hAB := hA.ext (e1.trans eB)
    obtain ⟨sv, x4, hacc, hblk⟩ := hAB.x4
    obtain ⟨psv, nsv, csv, rfl⟩ := hacc.isSlice
    have b2 := (e1.trans eB).get a2
    have hev := hA.ev
    simp only at hev
    cases hok : (spanF wd).2.2 with
    | false =>
      rw [if_neg (by simp [hok])] at hp
      have hbad : Bad9 X2 X12 G0 C (B.set X2 (some zeroG)) := ⟨by simp; omega, get_set_same b2, fun z hz h1 h2 => by
        by_cases hz2 : z = X2
        · subst hz2; rw [get_set_same b2, hX2]
        · rw [get_set_ne (by omega) hz2, hAB.fr z hz h1 h2]⟩
      unfold zeroG at b2 hbad
      simp (disch := as_aux_lemma => first | omega | simp only [hDs] <;> omega | simp [isCell]) [hRs, takeMarks, resA, resAll, resOne, Value.cells, ← ha, ← hb, hok, k2, fillA, storeB_cells, setRange, setRange_all, set_push_eq, ← hB, b2]
      refine hR _ _ hp.symm hbad ?_ ?_
      · simp [k2]
      · simp
    | true =>
      rw [if_pos hok] at hp
      obtain ⟨sv', A2, a1, a2', a3, a4, a5⟩ := add_keep (g := g) (bytes := 16) (A := B) (new := [.int .i64 a, .int .i64 b]) (ro := false) (n := zs.length / 2) hacc g1 (by omega) rfl (by decide) rfl (by rw [ints_length]; simp only; omega) (by unfold room; omega)
      simp only at a2'
      rw [show ints zs ++ [.int .i64 a, .int .i64 b] = ints (zs ++ [a, b]) by rw [ints_append]; rfl] at a2'
      obtain ⟨ps, ns, cs, rfl⟩ := a2'.isSlice
      have y4 : A2.get X12 = some (.cells [.int .i64 w, .int .i64 h, .int .i64 s, .slice psv nsv csv] false) := by rw [a3 X12 (by omega) (fun h => by have := (hacc.blk_ge h).1; omega)]; exact x4
      simp only at x4
      simp (disch := as_aux_lemma => first | omega | simp only [hDs] <;> omega | simp [isCell]) [hRs, takeMarks, resA, resAll, resOne, Value.cells, ← ha, ← hb, hok, k12, fillA, storeB_cells, setRange, setRange_all, set_push_eq, ← hB, b16, x4, slitA, show zeros 1 [Value.int .i64 0, .int .i64 0] = [.int .i64 0, .int .i64 0] from rfl, a1, y4, t15, e5]
      refine ih (j + 1) (zs ++ [a, b]) (by omega) ⟨fun z hz h4 h0 => ?_, by simp; omega, ⟨_, get_set_same y4, a2'.keepB fun z hz => get_set_ne (Hp.lt_of_get y4) (by have := (a2'.blk_ge hz).1; omega), fun z hz => .inr (by have := Option.some.inj (a5.symm.trans hz); omega)⟩, by simp; omega⟩ hp (by simp; omega) (fun t ht => ?_) ?_ ?_
      · rw [get_set_ne (Hp.lt_of_get y4) h4, a3 z (by omega) (fun h => (hblk z h).elim h0 (fun h1 => by omega)), hAB.fr z hz h4 h0]
      · rw [← hk t ht]
        rcases ht with rfl | rfl | rfl | rfl | rfl <;> simp
      · simp [t14]
      · simp
end
end Go.Ab.Grid
set_option maxRecDepth 100000
namespace Go.Ab.Grid
open Go Go.Ab
def rowsF : List (List UInt8) → List Int → Option (List Int)
  | [], zs => some zs
  | L :: Ls, zs => if L = [] then rowsF Ls zs else (rowF (splitL 32 [] L) zs).bind fun zs' => rowsF Ls zs'
def wt : List (List UInt8) → Nat
  | [] => 0
  | L :: Ls => L.length + 1 + wt Ls
theorem splitL_wt {c : UInt8} : ∀ {l cur : List UInt8}, wt (splitL c cur l) = cur.length + l.length + 1
  | [], cur => by simp [splitL, wt]
  | x :: l, cur => by
    rw [splitL]
    split
    · rw [wt, splitL_wt]; simp; omega
    · rw [splitL_wt]; simp; omega
section
variable {g : Nat} {rd : Option Nat} {T : List Value} {D : List Nat} {A : Hp} {Q : Ex → St → Prop} {V : Value → Hp → Prop}
theorem out309 {M X2 X12 F cL : Nat} {C0 : Hp} {Ls : List (List UInt8)} {ro : Bool} {R : Option (List Int)} {w h s : Int}
    (hg : g ≤ M ∧ g ≤ X2 ∧ g ≤ X12) (hM : X2 < M ∧ X12 < M ∧ X2 ≠ X12) (hMC : M = C0.n) (hX2 : C0.get X2 = some zeroG)
    (hF : C0.get F = some (.cells (Ls.map strV) ro)) (hF4 : F ≠ X12) (hwl : ∀ w, w ∈ Ls → w.length ≤ 100000) (hwn : Ls.length ≤ 200000)
    (hQ : ∀ T' A' zs, R = some zs → RdA M X12 none C0 ⟨w, h, s, zs⟩ A' → zs.length ≤ 200000 → (∀ t, t = 0 ∨ t = 2 ∨ t = 12 → tget T' t = tget T t) → Q (.exit 0) ⟨T', D, A'⟩)
    (hR : ∀ T' A', R = none → Bad9 X2 X12 none C0 A' → tget T' 2 = .pointer (some ⟨X2, 0, none⟩) → tget T' 3 = .int .i64 7 → Q .ret ⟨T', D, A'⟩)
    (t2 : tget T 2 = .pointer (some ⟨X2, 0, none⟩)) (t12 : tget T 12 = .pointer (some ⟨X12, 0, none⟩)) (t4 : tget T 4 = .slice (some ⟨F, 0, some 1⟩) Ls.length cL) :
    ∀ (k i : Nat) {T1 : List Value} {A : Hp} (zs : List Int), i + k = Ls.length → RdA M X12 none C0 ⟨w, h, s, zs⟩ A → rowsF (Ls.drop i) zs = R → zs.length + 2 * wt (Ls.drop i) ≤ 200000 → (∀ t, t = 0 ∨ t = 2 ∨ t = 4 ∨ t = 12 → tget T1 t = tget T t) →
      tget T1 13 = .int .i64 i → W AP KL g rd (.loop body309) ⟨T1, D, A⟩ Q := by
  intro k
  obtain ⟨g1, g2, g3⟩ := hg
  obtain ⟨l2, l12, n212⟩ := hM
  induction k with
  | zero =>
    intro i T1 A zs hj hA hp hz hk t13
    have : i = Ls.length := by omega
    subst this
    have k4 := (hk 4 (by simp)).trans t4
    rw [List.drop_length, rowsF] at hp
    rw [W_loop]
    simp (disch := as_aux_lemma => first | omega | simp only [hDs] <;> omega | simp [isCell]) [hRs, takeMarks, resA, resAll, resOne, Value.cells, body309, t13, k4]
    refine hQ _ _ zs hp.symm hA (by omega) fun t ht => ?_
    rw [← hk t (by omega)]
    rcases ht with rfl | rfl | rfl <;> simp
  | succ k ih =>
    intro i T1 A zs hj hA hp hz hk t13
    have hin : i < Ls.length := by omega
    have hn := hA.n
    have e5 : wr .i64 ((i : Int) + 1) = ((i + 1 : Nat) : Int) := by rw [wrId (by omega) (by omega)]; simp
    have aF : A.get F = some (.cells (Ls.map strV) ro) := by rw [hA.fr F (Hp.lt_of_get hF) hF4 (by simp)]; exact hF
    have hFn := Hp.lt_of_get hF
    obtain ⟨L, hL⟩ : ∃ L, L = Ls[i] := ⟨_, rfl⟩
    have hLl := hwl L (by rw [hL]; exact List.getElem_mem _)
    have hcell : cellAt (Ls.map strV) i = some (strV L) := by
      unfold cellAt
      rw [List.getElem?_map, List.getElem?_eq_getElem hin, hL]
      rfl
    have hdrop : Ls.drop i = L :: Ls.drop (i + 1) := by rw [List.drop_eq_getElem_cons hin, hL]
    rw [hdrop, rowsF] at hp
    rw [hdrop, wt] at hz
    have k2 := (hk 2 (by simp)).trans t2
    have k4 := (hk 4 (by simp)).trans t4
    have k12 := (hk 12 (by simp)).trans t12
    have hwlen := splitL_len (c := 32) (l := L) (cur := [])
    rw [W_loop]
    simp (disch := as_aux_lemma => first | omega | simp only [hDs] <;> omega | simp [isCell]) [hRs, takeMarks, resA, resAll, resOne, Value.cells, body309, t13, k4, show (i : Int) < Ls.length by omega, hin, idxSA_ok, aF, hcell]
    refine w346 (c := 32) (l := L) (by omega) (by omega) fun A1 sw e1 rsw hsw => ?_
    have n1 := e1.1
    have hA1 := hA.ext e1
    obtain ⟨Fw, cW, rw', rfl, hW⟩ := rsw.at hwlen.1
    have hFw := hsw Fw rfl
    obtain ⟨sv, y1, y2, y3⟩ := hA.x4
    have hb2 : ∀ z, blkOf sv = some z → M ≤ z ∧ z < A.n := fun z hz => y2.blk_ge hz
    have hA2 : RdA M X12 (blkOf sv) A1 ⟨w, h, s, zs⟩ A1 := ⟨fun _ _ _ _ => rfl, Nat.le_refl _, ⟨sv, e1.get y1, y2.mono e1.2, fun z hz => .inl hz⟩, hA.ev⟩
    have b2 : A1.get X2 = some zeroG := by rw [hA1.fr X2 (by omega) n212 (by simp)]; exact hX2
    have bF := e1.get aF
    by_cases hne : L = []
    · rw [if_pos hne] at hp
      subst hne
      simp (disch := as_aux_lemma => first | omega | simp only [hDs] <;> omega | simp [isCell]) [hRs, takeMarks, resA, resAll, resOne, Value.cells]
      rw [W_loop]
      simp (disch := as_aux_lemma => first | omega | simp only [hDs] <;> omega | simp [isCell]) [hRs, takeMarks, resA, resAll, resOne, Value.cells, t13, k4, splitL, show (i : Int) < Ls.length by omega, hin, idxSA_ok, bF, hcell, strNeq, e5]
      refine ih (i + 1) zs (by omega) hA1 hp (by simp at hz; omega) (fun t ht => ?_) ?_
      · rw [← hk t ht]
        rcases ht with rfl | rfl | rfl | rfl <;> simp
      · simp
    · rw [if_neg hne] at hp
      simp (disch := as_aux_lemma => first | omega | simp only [hDs] <;> omega | simp [isCell]) [hRs, takeMarks, resA, resAll, resOne, Value.cells]
      refine inn309 (M := M) (X2 := X2) (X12 := X12) (F := F) (Fw := Fw) (i := i) (cL := cL) (cW := cW) (G0 := blkOf sv) (C := A1) (Ls := Ls) (ws := splitL 32 [] L) (L := L) (R := rowF (splitL 32 [] L) zs) (w := w) (h := h) (s := s) ⟨g1, g2, g3⟩ ⟨l2, l12, n212, by omega⟩ (fun z hz => (hb2 z hz).1) b2 bF ⟨hF4, fun hz => by have := (hb2 _ hz).1; omega⟩ hW ⟨by omega, fun hz => by have := (hb2 _ hz).2; omega⟩ hin hL.symm hne
        (fun w' hw' => by have := splitL_mem hw'; simp at this; omega) (by omega) (fun T' A' zs' hz' hA' hk' => ?_) (fun T' A' hz' hb' u2 u3 => ?_) ?_ ?_ ?_ ?_ (splitL 32 [] L).length 0 zs (Nat.zero_add _) hA2 (by rw [List.drop_zero]) (by omega) (fun _ _ => rfl) ?_ ?_
      · rw [hz'] at hp
        have hlen := rowF_len hz'
        have j13 := hk' 13 (by simp)
        simp at j13
        have hn' := hA'.n
        simp (disch := as_aux_lemma => first | omega | simp only [hDs] <;> omega | simp [isCell]) [hRs, takeMarks, resA, resAll, resOne, Value.cells, BlkQ, SeqQ, j13, t13, e5]
        obtain ⟨sv', z1, z2, z3⟩ := hA'.x4
        refine ih (i + 1) zs' (by omega) ⟨fun z hz h1 _ => ?_, by omega, ⟨sv', z1, z2, fun z hz => .inr (by have := (z2.blk_ge hz).1; omega)⟩, hA'.ev⟩ hp (by omega) (fun t ht => ?_) ?_
        · rw [hA'.fr z (by omega) h1 (fun hz' => by have := (hb2 _ hz').1; omega), hA1.fr z hz h1 (by simp)]
        · have := hk' t (by omega)
          rw [← hk t ht]
          rcases ht with rfl | rfl | rfl | rfl <;> simp at this ⊢ <;> exact this
        · simp
      · rw [hz'] at hp
        simp (disch := as_aux_lemma => first | omega | simp only [hDs] <;> omega | simp [isCell]) [hRs, takeMarks, resA, resAll, resOne, Value.cells, BlkQ, SeqQ]
        obtain ⟨p1, p2, p3⟩ := hb'
        exact hR _ _ hp.symm ⟨by omega, p2, fun z hz h1 _ => by rw [p3 z (by omega) h1 (fun hz' => by have := (hb2 _ hz').1; omega), hA1.fr z hz h1 (by simp)]⟩ u2 u3
      · simp [k2]
      · simp [k12]
      · simp [k4]
      · simp [t13]
      · simp
      · simp
end
end Go.Ab.Grid
