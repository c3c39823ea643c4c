/- ref05.Starts: more parts. -/
import Derived.Test.YtmmpjfknmdlpoaaZ07
set_option linter.unusedSimpArgs false
set_option linter.unusedVariables false
set_option linter.unusedSectionVars false
namespace Go.Ab.Wave
open Go Go.Ab
def srcErr (n k c cl lo hi : Int) : Int :=
  if (decide (k < 1) || decide (3 < k)) = true then 2 else if (decide (c < 0) || decide (n ≤ c)) = true then 4 else
  if (decide (cl < 1) || (decide (10 < cl) || !inS lo hi 0 1000000000)) = true then 3 else 0
def srcV (k c cl lo hi : Int) : Value := .agg ⟨[J k, J c, J cl, J lo, J hi]⟩
def S38 : Spec := fun _ args A =>
  match args with
  | [.agg ⟨[.int .i64 w, .int .i64 h, .int .i64 s, sl]⟩, .agg ⟨[.int .i64 k, .int .i64 c, .int .i64 cl, .int .i64 lo, .int .i64 hi]⟩] => match groundOf A sl with
    | some l => some (J (srcErr l.length k c cl lo hi), A)
    | none => none
  | _ => none
set_option maxHeartbeats 2000000 in
theorem run38 (w h s k c cl lo hi : Int) {n : Int} {sl : Value} {rows : List (List Value)} (hn : lenV sl = some (J n)) :
    ∃ A', callA AP Kw 0 1 rows.length 38 [gridV w h s sl, srcV k c cl lo hi] (roHp rows) = some (J (srcErr n k c cl lo hi), A') := by
  unfold callA
  rw [callF_body rfl (show AP 38 = some F38 from rfl)]
  have hr : (roHp rows).n = rows.length := rfl
  have hg : (((roHp rows).push (.cells [J w, J h, J s, sl] false)).push (.cells [J k, J c, J cl, J lo, J hi] false)).get rows.length = some (.cells [J w, J h, J s, sl] false) := by
    rw [Hp.get_push, if_neg (by rw [Hp.n_push, hr]; omega), Hp.get_push, if_pos hr.symm]
  have hs : (((roHp rows).push (.cells [J w, J h, J s, sl] false)).push (.cells [J k, J c, J cl, J lo, J hi] false)).get (rows.length + 1) = some (.cells [J k, J c, J cl, J lo, J hi] false) := by
    rw [Hp.get_push, if_pos (by rw [Hp.n_push, hr])]
  have hload : loadA (((roHp rows).push (.cells [J w, J h, J s, sl] false)).push (.cells [J k, J c, J cl, J lo, J hi] false)) (.pointer (some ⟨rows.length + 1, 3, none⟩)) (some 2) = some (.agg ⟨[J lo, J hi]⟩) := by
    simp [loadA, hs, partA]
  simp only [J] at hn hg hs hload
  have hg' := fun o => load_cell (o := o) hg
  have hs' := fun o => load_cell (o := o) hs
  have k1 : (k < 1 ∨ (k = 1 ∨ k = 2 ∨ k = 3) ∨ 3 < k) := by omega
  rcases k1 with k1 | k1 | k1
  · simp [exec_succ, codeA_skip, codeA_seq, codeA_ops, codeA_cond, codeA_block, codeA_ret, codeA_exit, opsA_cons, operA_plain, operA_guard, wantedA_some, thenPut_some, opA, ev_t, ev_k, putA_some, putA_none, tset_zero_nil, tset_zero_cons, tset_succ_nil, tset_succ_cons, seqA_normal, seqA_exit, seqA_ret, inBlk_normal, inBlk_ret, condA_true, condA_false, J, binA, intA, kEq, pureV, pickA, notA, fieldAddrA, allocA, storeV, finishA_ret, takeMarks, resA, resAll, resOne, Value.cells, partA, callV_func, callF_spec (show Kw 42 = some S42 from rfl), S42_eq, gridV, srcV, srcErr, hr, hg', hs', hn, hload, k1]
  · by_cases c1 : c < 0
    · rcases k1 with rfl | rfl | rfl <;> simp [exec_succ, codeA_skip, codeA_seq, codeA_ops, codeA_cond, codeA_block, codeA_ret, codeA_exit, opsA_cons, operA_plain, operA_guard, wantedA_some, thenPut_some, opA, ev_t, ev_k, putA_some, putA_none, tset_zero_nil, tset_zero_cons, tset_succ_nil, tset_succ_cons, seqA_normal, seqA_exit, seqA_ret, inBlk_normal, inBlk_ret, condA_true, condA_false, J, binA, intA, kEq, pureV, pickA, notA, fieldAddrA, allocA, storeV, finishA_ret, takeMarks, resA, resAll, resOne, Value.cells, partA, callV_func, callF_spec (show Kw 42 = some S42 from rfl), S42_eq, gridV, srcV, srcErr, hr, hg', hs', hn, hload, c1]
    · by_cases c2 : n ≤ c
      · rcases k1 with rfl | rfl | rfl <;> simp [exec_succ, codeA_skip, codeA_seq, codeA_ops, codeA_cond, codeA_block, codeA_ret, codeA_exit, opsA_cons, operA_plain, operA_guard, wantedA_some, thenPut_some, opA, ev_t, ev_k, putA_some, putA_none, tset_zero_nil, tset_zero_cons, tset_succ_nil, tset_succ_cons, seqA_normal, seqA_exit, seqA_ret, inBlk_normal, inBlk_ret, condA_true, condA_false, J, binA, intA, kEq, pureV, pickA, notA, fieldAddrA, allocA, storeV, finishA_ret, takeMarks, resA, resAll, resOne, Value.cells, partA, callV_func, callF_spec (show Kw 42 = some S42 from rfl), S42_eq, gridV, srcV, srcErr, hr, hg', hs', hn, hload, c1, c2]
      · by_cases d1 : cl < 1
        · rcases k1 with rfl | rfl | rfl <;> simp [exec_succ, codeA_skip, codeA_seq, codeA_ops, codeA_cond, codeA_block, codeA_ret, codeA_exit, opsA_cons, operA_plain, operA_guard, wantedA_some, thenPut_some, opA, ev_t, ev_k, putA_some, putA_none, tset_zero_nil, tset_zero_cons, tset_succ_nil, tset_succ_cons, seqA_normal, seqA_exit, seqA_ret, inBlk_normal, inBlk_ret, condA_true, condA_false, J, binA, intA, kEq, pureV, pickA, notA, fieldAddrA, allocA, storeV, finishA_ret, takeMarks, resA, resAll, resOne, Value.cells, partA, callV_func, callF_spec (show Kw 42 = some S42 from rfl), S42_eq, gridV, srcV, srcErr, hr, hg', hs', hn, hload, c1, c2, d1]
        · by_cases d2 : 10 < cl
          · rcases k1 with rfl | rfl | rfl <;> simp [exec_succ, codeA_skip, codeA_seq, codeA_ops, codeA_cond, codeA_block, codeA_ret, codeA_exit, opsA_cons, operA_plain, operA_guard, wantedA_some, thenPut_some, opA, ev_t, ev_k, putA_some, putA_none, tset_zero_nil, tset_zero_cons, tset_succ_nil, tset_succ_cons, seqA_normal, seqA_exit, seqA_ret, inBlk_normal, inBlk_ret, condA_true, condA_false, J, binA, intA, kEq, pureV, pickA, notA, fieldAddrA, allocA, storeV, finishA_ret, takeMarks, resA, resAll, resOne, Value.cells, partA, callV_func, callF_spec (show Kw 42 = some S42 from rfl), S42_eq, gridV, srcV, srcErr, hr, hg', hs', hn, hload, c1, c2, d1, d2]
          · cases i : inS lo hi 0 1000000000 <;> rcases k1 with rfl | rfl | rfl <;> simp [exec_succ, codeA_skip, codeA_seq, codeA_ops, codeA_cond, codeA_block, codeA_ret, codeA_exit, opsA_cons, operA_plain, operA_guard, wantedA_some, thenPut_some, opA, ev_t, ev_k, putA_some, putA_none, tset_zero_nil, tset_zero_cons, tset_succ_nil, tset_succ_cons, seqA_normal, seqA_exit, seqA_ret, inBlk_normal, inBlk_ret, condA_true, condA_false, J, binA, intA, kEq, pureV, pickA, notA, fieldAddrA, allocA, storeV, finishA_ret, takeMarks, resA, resAll, resOne, Value.cells, partA, callV_func, callF_spec (show Kw 42 = some S42 from rfl), S42_eq, gridV, srcV, srcErr, hr, hg', hs', hn, hload, c1, c2, d1, d2, i]
  · simp [exec_succ, codeA_skip, codeA_seq, codeA_ops, codeA_cond, codeA_block, codeA_ret, codeA_exit, opsA_cons, operA_plain, operA_guard, wantedA_some, thenPut_some, opA, ev_t, ev_k, putA_some, putA_none, tset_zero_nil, tset_zero_cons, tset_succ_nil, tset_succ_cons, seqA_normal, seqA_exit, seqA_ret, inBlk_normal, inBlk_ret, condA_true, condA_false, J, binA, intA, kEq, pureV, pickA, notA, fieldAddrA, allocA, storeV, finishA_ret, takeMarks, resA, resAll, resOne, Value.cells, partA, callV_func, callF_spec (show Kw 42 = some S42 from rfl), S42_eq, gridV, srcV, srcErr, hr, hg', hs', hn, hload, k1, show ¬ k < 1 by omega]
theorem S38_ok38 (g : Nat) (args : List Value) (A : Hp) (v : Value) (A' : Hp) (h : S38 g args A = some (v, A')) : FnSound E g 38 args A v A' ∧ HK g A A' := by
  unfold S38 at h
  split at h
  · rename_i w hh s sl k c cl lo hi
    split at h
    · rename_i l hl
      cases h
      exact good_grid Kw_ok (isFn' 38 _ _ _ rfl) (rest := [srcV k c cl lo hi]) hl rfl (fun _ => rfl) rfl rfl rfl (fun _ => rfl) (fun sl rows _ _ h1 => by
        obtain ⟨A', hr⟩ := run38 w hh s k c cl lo hi (rows := rows) h1.1
        exact ⟨_, _, A', hr⟩) g
    · cases h
  · cases h
set_option maxHeartbeats 2000000 in
theorem run41 (w h s k c cl lo hi : Int) {n : Int} {sl : Value} {rows : List (List Value)} (hn : lenV sl = some (J n)) :
    ∃ A', callA AP Kw 0 1 rows.length 41 [gridV w h s sl, srcV k c cl lo hi] (roHp rows) = some (J (srcErr n k c cl lo hi), A') := by
  unfold callA
  rw [callF_body rfl (show AP 41 = some F41 from rfl)]
  have hr : (roHp rows).n = rows.length := rfl
  have hg : (((roHp rows).push (.cells [J w, J h, J s, sl] false)).push (.cells [J k, J c, J cl, J lo, J hi] false)).get rows.length = some (.cells [J w, J h, J s, sl] false) := by
    rw [Hp.get_push, if_neg (by rw [Hp.n_push, hr]; omega), Hp.get_push, if_pos hr.symm]
  have hs : (((roHp rows).push (.cells [J w, J h, J s, sl] false)).push (.cells [J k, J c, J cl, J lo, J hi] false)).get (rows.length + 1) = some (.cells [J k, J c, J cl, J lo, J hi] false) := by
    rw [Hp.get_push, if_pos (by rw [Hp.n_push, hr])]
  have hload : loadA (((roHp rows).push (.cells [J w, J h, J s, sl] false)).push (.cells [J k, J c, J cl, J lo, J hi] false)) (.pointer (some ⟨rows.length + 1, 3, none⟩)) (some 2) = some (.agg ⟨[J lo, J hi]⟩) := by
    simp [loadA, hs, partA]
  simp only [J] at hn hg hs hload
  have hg' := fun o => load_cell (o := o) hg
  have hs' := fun o => load_cell (o := o) hs
  have k1 : (k < 1 ∨ (k = 1 ∨ k = 2 ∨ k = 3) ∨ 3 < k) := by omega
  rcases k1 with k1 | k1 | k1
  · simp [exec_succ, codeA_skip, codeA_seq, codeA_ops, codeA_cond, codeA_block, codeA_ret, codeA_exit, opsA_cons, operA_plain, operA_guard, wantedA_some, thenPut_some, opA, ev_t, ev_k, putA_some, putA_none, tset_zero_nil, tset_zero_cons, tset_succ_nil, tset_succ_cons, seqA_normal, seqA_exit, seqA_ret, inBlk_normal, inBlk_ret, condA_true, condA_false, J, binA, intA, kEq, pureV, pickA, notA, fieldAddrA, allocA, storeV, finishA_ret, takeMarks, resA, resAll, resOne, Value.cells, partA, callV_func, callF_spec (show Kw 43 = some S42 from rfl), S42_eq, gridV, srcV, srcErr, hr, hg', hs', hn, hload, k1, show (k != 1) = true from bne_iff_ne.2 (by omega), show (k != 2) = true from bne_iff_ne.2 (by omega), show (k != 3) = true from bne_iff_ne.2 (by omega)]
  · by_cases c1 : c < 0
    · rcases k1 with rfl | rfl | rfl <;> simp [exec_succ, codeA_skip, codeA_seq, codeA_ops, codeA_cond, codeA_block, codeA_ret, codeA_exit, opsA_cons, operA_plain, operA_guard, wantedA_some, thenPut_some, opA, ev_t, ev_k, putA_some, putA_none, tset_zero_nil, tset_zero_cons, tset_succ_nil, tset_succ_cons, seqA_normal, seqA_exit, seqA_ret, inBlk_normal, inBlk_ret, condA_true, condA_false, J, binA, intA, kEq, pureV, pickA, notA, fieldAddrA, allocA, storeV, finishA_ret, takeMarks, resA, resAll, resOne, Value.cells, partA, callV_func, callF_spec (show Kw 43 = some S42 from rfl), S42_eq, gridV, srcV, srcErr, hr, hg', hs', hn, hload, c1]
    · by_cases c2 : n ≤ c
      · rcases k1 with rfl | rfl | rfl <;> simp [exec_succ, codeA_skip, codeA_seq, codeA_ops, codeA_cond, codeA_block, codeA_ret, codeA_exit, opsA_cons, operA_plain, operA_guard, wantedA_some, thenPut_some, opA, ev_t, ev_k, putA_some, putA_none, tset_zero_nil, tset_zero_cons, tset_succ_nil, tset_succ_cons, seqA_normal, seqA_exit, seqA_ret, inBlk_normal, inBlk_ret, condA_true, condA_false, J, binA, intA, kEq, pureV, pickA, notA, fieldAddrA, allocA, storeV, finishA_ret, takeMarks, resA, resAll, resOne, Value.cells, partA, callV_func, callF_spec (show Kw 43 = some S42 from rfl), S42_eq, gridV, srcV, srcErr, hr, hg', hs', hn, hload, c1, c2]
      · by_cases d1 : cl < 1
        · rcases k1 with rfl | rfl | rfl <;> simp [exec_succ, codeA_skip, codeA_seq, codeA_ops, codeA_cond, codeA_block, codeA_ret, codeA_exit, opsA_cons, operA_plain, operA_guard, wantedA_some, thenPut_some, opA, ev_t, ev_k, putA_some, putA_none, tset_zero_nil, tset_zero_cons, tset_succ_nil, tset_succ_cons, seqA_normal, seqA_exit, seqA_ret, inBlk_normal, inBlk_ret, condA_true, condA_false, J, binA, intA, kEq, pureV, pickA, notA, fieldAddrA, allocA, storeV, finishA_ret, takeMarks, resA, resAll, resOne, Value.cells, partA, callV_func, callF_spec (show Kw 43 = some S42 from rfl), S42_eq, gridV, srcV, srcErr, hr, hg', hs', hn, hload, c1, c2, d1]
        · by_cases d2 : 10 < cl
          · rcases k1 with rfl | rfl | rfl <;> simp [exec_succ, codeA_skip, codeA_seq, codeA_ops, codeA_cond, codeA_block, codeA_ret, codeA_exit, opsA_cons, operA_plain, operA_guard, wantedA_some, thenPut_some, opA, ev_t, ev_k, putA_some, putA_none, tset_zero_nil, tset_zero_cons, tset_succ_nil, tset_succ_cons, seqA_normal, seqA_exit, seqA_ret, inBlk_normal, inBlk_ret, condA_true, condA_false, J, binA, intA, kEq, pureV, pickA, notA, fieldAddrA, allocA, storeV, finishA_ret, takeMarks, resA, resAll, resOne, Value.cells, partA, callV_func, callF_spec (show Kw 43 = some S42 from rfl), S42_eq, gridV, srcV, srcErr, hr, hg', hs', hn, hload, c1, c2, d1, d2]
          · cases i : inS lo hi 0 1000000000 <;> rcases k1 with rfl | rfl | rfl <;> simp [exec_succ, codeA_skip, codeA_seq, codeA_ops, codeA_cond, codeA_block, codeA_ret, codeA_exit, opsA_cons, operA_plain, operA_guard, wantedA_some, thenPut_some, opA, ev_t, ev_k, putA_some, putA_none, tset_zero_nil, tset_zero_cons, tset_succ_nil, tset_succ_cons, seqA_normal, seqA_exit, seqA_ret, inBlk_normal, inBlk_ret, condA_true, condA_false, J, binA, intA, kEq, pureV, pickA, notA, fieldAddrA, allocA, storeV, finishA_ret, takeMarks, resA, resAll, resOne, Value.cells, partA, callV_func, callF_spec (show Kw 43 = some S42 from rfl), S42_eq, gridV, srcV, srcErr, hr, hg', hs', hn, hload, c1, c2, d1, d2, i]
  · simp [exec_succ, codeA_skip, codeA_seq, codeA_ops, codeA_cond, codeA_block, codeA_ret, codeA_exit, opsA_cons, operA_plain, operA_guard, wantedA_some, thenPut_some, opA, ev_t, ev_k, putA_some, putA_none, tset_zero_nil, tset_zero_cons, tset_succ_nil, tset_succ_cons, seqA_normal, seqA_exit, seqA_ret, inBlk_normal, inBlk_ret, condA_true, condA_false, J, binA, intA, kEq, pureV, pickA, notA, fieldAddrA, allocA, storeV, finishA_ret, takeMarks, resA, resAll, resOne, Value.cells, partA, callV_func, callF_spec (show Kw 43 = some S42 from rfl), S42_eq, gridV, srcV, srcErr, hr, hg', hs', hn, hload, k1, show ¬ k < 1 by omega, show (k != 1) = true from bne_iff_ne.2 (by omega), show (k != 2) = true from bne_iff_ne.2 (by omega), show (k != 3) = true from bne_iff_ne.2 (by omega)]
theorem S38_ok41 (g : Nat) (args : List Value) (A : Hp) (v : Value) (A' : Hp) (h : S38 g args A = some (v, A')) : FnSound E g 41 args A v A' ∧ HK g A A' := by
  unfold S38 at h
  split at h
  · rename_i w hh s sl k c cl lo hi
    split at h
    · rename_i l hl
      cases h
      exact good_grid Kw_ok (isFn' 41 _ _ _ rfl) (rest := [srcV k c cl lo hi]) hl rfl (fun _ => rfl) rfl rfl rfl (fun _ => rfl) (fun sl rows _ _ h1 => by
        obtain ⟨A', hr⟩ := run41 w hh s k c cl lo hi (rows := rows) h1.1
        exact ⟨_, _, A', hr⟩) g
    · cases h
  · cases h
end Go.Ab.Wave
namespace Go.Ab
def AccS (N : Nat) (A : Hp) (esz : Nat) (cs : List Value) (sv : Value) : Prop :=
  (sv = .slice none 0 0 ∧ cs = []) ∨ ∃ b n, sv = .slice (some ⟨b, 0, some esz⟩) n n ∧ A.get b = some (.cells cs false) ∧ N ≤ b ∧ cs.length = n * esz ∧ 0 < n
theorem AccS.nil {N : Nat} {A : Hp} {esz : Nat} : AccS N A esz [] (.slice none 0 0) := .inl ⟨rfl, rfl⟩
theorem AccS.mono {N : Nat} {A A' : Hp} {esz : Nat} {cs : List Value} {sv : Value} (h : AccS N A esz cs sv) (hA : ∀ x, x < A.n → A'.get x = A.get x) : AccS N A' esz cs sv := by
  rcases h with h | ⟨b, n, h1, h2, h3, h4, h5⟩
  · exact .inl h
  · exact .inr ⟨b, n, h1, by rw [hA b (Hp.lt_of_get h2)]; exact h2, h3, h4, h5⟩
theorem AccS.len {N : Nat} {A : Hp} {esz : Nat} {cs : List Value} {sv : Value} (h : AccS N A esz cs sv) : ∃ n : Nat, lenV sv = some (.int .i64 n) ∧ cs.length = n * esz := by
  rcases h with ⟨rfl, rfl⟩ | ⟨b, n, rfl, _, _, h4, _⟩
  · exact ⟨0, rfl, by simp⟩
  · exact ⟨n, rfl, h4⟩
theorem append_acc {N g : Nat} {A : Hp} {esz bytes y n : Nat} {cs new : List Value} {ro : Bool} {sv : Value} (h : AccS N A esz cs sv) (hg : g ≤ N) (hN : N ≤ A.n) (hy : A.get y = some (.cells new ro)) (hnew : new.length = esz) (hesz : 0 < esz)
    (hcell : new.all isCell = true) (hl : cs.length = n * esz) (hroom : (n + 1) * bytes ≤ room ∧ n + 1 ≤ room) :
    ∃ sv' A', appendA g A esz bytes sv (.slice (some ⟨y, 0, some esz⟩) 1 1) = some (sv', A') ∧ AccS N A' esz (cs ++ new) sv' ∧ (∀ z, z < N → A'.get z = A.get z) ∧ A'.n = A.n + 1 := by
  have hcells : cellsAt A (1 * esz) (.slice (some ⟨y, 0, some esz⟩) 1 1) = some new := by
    simp only [cellsAt, hy, Nat.one_mul]
    rw [if_pos (by omega)]
    subst hnew
    simp
  rcases h with ⟨rfl, rfl⟩ | ⟨b, k, rfl, hb, hNb, hk, hk0⟩
  · have hn : n = 0 := by
      rcases Nat.eq_zero_or_pos n with h | h
      · exact h
      · have := Nat.mul_pos h hesz
        simp only [List.length_nil] at hl
        omega
    subst hn
    refine ⟨.slice (some ⟨A.n, 0, some esz⟩) 1 1, A.push (.cells new false), ?_, .inr ⟨A.n, 1, rfl, by rw [Hp.get_push, if_pos rfl]; simp, hN, by simp [hnew], by omega⟩, fun z hz => by rw [Hp.get_push, if_neg (by omega)], rfl⟩
    have hr : 1 * bytes ≤ room ∧ 1 ≤ room := by simpa using hroom
    unfold appendA
    simp only [hcells]
    rw [if_pos ⟨hcell, hesz⟩]
    simp only [if_neg (show ¬ (1 = 0) by decide)]
    rw [if_pos hr]
  · have hkn : k = n := Nat.eq_of_mul_eq_mul_right hesz (hk.symm.trans hl)
    subst hkn
    refine ⟨.slice (some ⟨A.n, 0, some esz⟩) (k + 1) (k + 1), (A.set b none).push (.cells (cs ++ new) false), ?_, .inr ⟨A.n, k + 1, rfl, by rw [Hp.get_push, Hp.n_set, if_pos rfl], hN, by simp [hnew, hk, Nat.add_mul], by omega⟩,
      fun z hz => by rw [Hp.get_push, Hp.n_set, if_neg (by omega), Hp.get_set hb, if_neg (by omega)], rfl⟩
    unfold appendA
    simp only [hcells]
    rw [if_pos ⟨hcell, hesz⟩]
    simp only [if_neg (show ¬ (1 = 0) by decide), hb]
    rw [if_pos ⟨by omega, hroom.1, hroom.2, trivial⟩, if_pos (by omega)]
    simp
end Go.Ab
namespace Go.Ab.Wave
open Go Go.Ab
def mx4 (a b c d : Int) : Int :=
  if d > (if c > (if b > a then b else a) then c else (if b > a then b else a)) then d else (if c > (if b > a then b else a) then c else (if b > a then b else a))
theorem maxA_ints (a b c d : Int) : maxA [.int .i64 a, .int .i64 b, .int .i64 c, .int .i64 d] = some (.int .i64 (mx4 a b c d)) := by
  simp [maxA, foldInt, mx4]
def awayV (w cell c : Int) : Int :=
  mx4 (wr .i64 (c.tmod w - cell.tmod w)) (wr .i64 (0 - wr .i64 (c.tmod w - cell.tmod w))) (wr .i64 (wr .i64 (c.tdiv w) - wr .i64 (cell.tdiv w))) (wr .i64 (0 - wr .i64 (wr .i64 (c.tdiv w) - wr .i64 (cell.tdiv w))))
theorem zeros5 : zeros 1 [.int .i64 0, .int .i64 0, .int .i64 0, .int .i64 0, .int .i64 0] = [.int .i64 0, .int .i64 0, .int .i64 0, .int .i64 0, .int .i64 0] := by rfl
def rowS (c tlo thi rlo rhi : Int) : List Value := [J c, J tlo, J thi, J rlo, J rhi]
section
variable {A : Hp} {G S R n : Nat} {sl sv : Value} {w h s k cell cl tlo thi rlo rhi far : Int} {run : ACode → RunFn} {cf : Nat → Nat → List Value → Hp → Option (Value × Hp)} {K : Nat → Option Spec} {M g N : Nat} {rd : Option Nat} {D : List Nat} {acc : List Value}
theorem end12 {T : List Value} {i m : Int} (hG : A.get G = some (.cells [J w, J h, J s, sl] false)) (hn : lenV sl = some (J m)) (h2 : tget T 2 = .pointer (some ⟨G, 0, none⟩)) (h11 : tget T 11 = J i) (hlt : ¬ i < m) :
    ∃ T', codeA (callV AP K run) cf M body12 g rd ⟨T, D, A⟩ = some (.exit 0, ⟨T', D, A⟩) ∧ tget T' 10 = tget T 10 := by
  simp only [J] at hG hn h11
  simp [body12, codeA_skip, codeA_seq, codeA_ops, codeA_cond, codeA_block, codeA_ret, codeA_exit, opsA_cons, operA_plain, operA_guard, wantedA_some, thenPut_some, opA, ev_t, ev_k, putA_some, putA_none, seqA_normal, seqA_exit, seqA_ret, inBlk_normal, inBlk_ret, condA_true, condA_false, J, binA, intA, kEq, pureV, pickA, fieldAddrA, negA, slitA, fillA, setRange, h2, h11, load_cell hG, hn, hlt]
theorem step12 {T : List Value} {i m : Int} (hw : w ≠ 0) (hG : A.get G = some (.cells [J w, J h, J s, sl] false)) (hS : A.get S = some (.cells [J k, J cell, J cl, J tlo, J thi] false)) (hR : A.get R = some (.cells [J rlo, J rhi] false))
    (hn : lenV sl = some (J m)) (hlt : i < m) (h2 : tget T 2 = .pointer (some ⟨G, 0, none⟩)) (h3 : tget T 3 = .pointer (some ⟨S, 0, none⟩)) (h8 : tget T 8 = J far) (h9 : tget T 9 = .pointer (some ⟨R, 0, none⟩)) (h10 : tget T 10 = sv) (h11 : tget T 11 = J i)
    (hacc : AccS N A 5 acc sv) (hg : g ≤ N) (hN : N ≤ A.n) (hl : acc.length = n * 5) (hroom : n < 1000000) :
    ∃ T' A' sv', codeA (callV AP K run) cf M body12 g rd ⟨T, D, A⟩ = some (.normal, ⟨T', D, A'⟩) ∧ AccS N A' 5 (if awayV w cell i ≤ far then acc ++ rowS i tlo thi rlo rhi else acc) sv' ∧ (∀ z, z < N → A'.get z = A.get z) ∧ A.n ≤ A'.n ∧
      tget T' 2 = tget T 2 ∧ tget T' 3 = tget T 3 ∧ tget T' 8 = tget T 8 ∧ tget T' 9 = tget T 9 ∧ tget T' 10 = sv' ∧ tget T' 11 = J (wr .i64 (i + 1)) := by
  have hacc1 := hacc.mono (A' := A.push (.cells (rowS i tlo thi rlo rhi) false)) fun x hx => by rw [Hp.get_push, if_neg (by omega)]
  obtain ⟨sv', A', happ, hac', hold, hn'⟩ := append_acc (g := g) (bytes := 40) (y := A.n) (new := rowS i tlo thi rlo rhi) (ro := false) hacc1 hg (by simp; omega) (by rw [Hp.get_push, if_pos rfl]) rfl (by decide) rfl hl
    (by simp only [room]; omega)
  have hl3 : loadA A (.pointer (some ⟨S, 3, none⟩)) (some 2) = some (.agg ⟨[J tlo, J thi]⟩) := by simp [loadA, hS, partA]
  have hl9 : loadA A (.pointer (some ⟨R, 0, none⟩)) (some 2) = some (.agg ⟨[J rlo, J rhi]⟩) := by simp [loadA, hR, partA]
  have hold' : ∀ z, z < N → A'.get z = A.get z := fun z hz => by rw [hold z hz, Hp.get_push, if_neg (by omega)]
  have e0 : awayV w cell i = mx4 (wr .i64 (i.tmod w - cell.tmod w)) (wr .i64 (0 - wr .i64 (i.tmod w - cell.tmod w))) (wr .i64 (wr .i64 (i.tdiv w) - wr .i64 (cell.tdiv w))) (wr .i64 (0 - wr .i64 (wr .i64 (i.tdiv w) - wr .i64 (cell.tdiv w)))) := rfl
  simp only [J, rowS, Int.zero_sub] at hG hS hR hn h8 h11 happ hl3 hl9 e0
  by_cases hf : awayV w cell i ≤ far
  · rw [e0] at hf
    obtain ⟨T', hT', hts⟩ : ∃ T', codeA (callV AP K run) cf M body12 g rd ⟨T, D, A⟩ = some (.normal, ⟨T', D, A'⟩) ∧ (tget T' 2 = tget T 2 ∧ tget T' 3 = tget T 3 ∧ tget T' 8 = tget T 8 ∧ tget T' 9 = tget T 9 ∧ tget T' 10 = sv' ∧ tget T' 11 = J (wr .i64 (i + 1))) := by
      simp [body12, codeA_skip, codeA_seq, codeA_ops, codeA_cond, codeA_block, codeA_ret, codeA_exit, opsA_cons, operA_plain, operA_guard, wantedA_some, thenPut_some, opA, ev_t, ev_k, putA_some, putA_none, seqA_normal, seqA_exit, seqA_ret, inBlk_normal, inBlk_ret, condA_true, condA_false, J, binA, intA, kEq, pureV, pickA, fieldAddrA, negA, slitA, fillA, setRange, zeros5, Value.cells, maxA_ints, h2, h3, h8, h9, h10, h11, load_cell hG, load_cell hS, hn, hlt, hw, hf, hl3, hl9, happ]
    rw [← e0] at hf
    exact ⟨T', A', sv', hT', by rw [if_pos hf]; exact hac', hold', by rw [hn', Hp.n_push]; omega, hts⟩
  · rw [e0] at hf
    obtain ⟨T', hT', hts⟩ : ∃ T', codeA (callV AP K run) cf M body12 g rd ⟨T, D, A⟩ = some (.normal, ⟨T', D, A⟩) ∧ (tget T' 2 = tget T 2 ∧ tget T' 3 = tget T 3 ∧ tget T' 8 = tget T 8 ∧ tget T' 9 = tget T 9 ∧ tget T' 10 = sv ∧ tget T' 11 = J (wr .i64 (i + 1))) := by
      simp [body12, codeA_skip, codeA_seq, codeA_ops, codeA_cond, codeA_block, codeA_ret, codeA_exit, opsA_cons, operA_plain, operA_guard, wantedA_some, thenPut_some, opA, ev_t, ev_k, putA_some, putA_none, seqA_normal, seqA_exit, seqA_ret, inBlk_normal, inBlk_ret, condA_true, condA_false, J, binA, intA, kEq, pureV, pickA, fieldAddrA, negA, slitA, fillA, setRange, zeros5, Value.cells, maxA_ints, h2, h3, h8, h9, h10, h11, load_cell hG, load_cell hS, hn, hlt, hw, hf]
    rw [← e0] at hf
    exact ⟨T', A, sv, hT', by rw [if_neg hf]; exact hacc, fun _ _ => rfl, Nat.le_refl _, hts⟩
def nearRows (w cell far tlo thi rlo rhi : Int) : Nat → Nat → List Value
  | _, 0 => []
  | i, k + 1 => (if awayV w cell i ≤ far then rowS i tlo thi rlo rhi else []) ++ nearRows w cell far tlo thi rlo rhi (i + 1) k
theorem loop12 {m : Nat} (hw : w ≠ 0) (hn : lenV sl = some (J m)) (hm : m < 1000000) (hGN : G < N) (hSN : S < N) (hRN : R < N) (hg : g ≤ N) :
    ∀ (c i e : Nat) (T : List Value) (A : Hp) (acc : List Value) (n : Nat) (sv : Value), i + c = m → A.get G = some (.cells [J w, J h, J s, sl] false) → A.get S = some (.cells [J k, J cell, J cl, J tlo, J thi] false) → A.get R = some (.cells [J rlo, J rhi] false) →
      tget T 2 = .pointer (some ⟨G, 0, none⟩) → tget T 3 = .pointer (some ⟨S, 0, none⟩) → tget T 8 = J far → tget T 9 = .pointer (some ⟨R, 0, none⟩) → tget T 10 = sv → tget T 11 = J i → AccS N A 5 acc sv → N ≤ A.n → acc.length = n * 5 → n ≤ i →
      ∃ T' A' sv', iterA (codeA (callV AP K run) cf M body12) (c + 1 + e) g rd ⟨T, D, A⟩ = some (.exit 0, ⟨T', D, A'⟩) ∧ AccS N A' 5 (acc ++ nearRows w cell far tlo thi rlo rhi i c) sv' ∧ tget T' 10 = sv' ∧ (∀ z, z < N → A'.get z = A.get z) ∧ A.n ≤ A'.n := by
  intro c
  induction c with
  | zero =>
    intro i e T A acc n sv hi hG hS hR h2 h3 h8 h9 h10 h11 hacc hN hl hni
    obtain ⟨T', hT', h10'⟩ := end12 (K := K) (run := run) (cf := cf) (M := M) (g := g) (rd := rd) (D := D) hG hn h2 h11 (by omega)
    rw [show 0 + 1 + e = e + 1 by omega, iterA_succ, hT']
    exact ⟨T', A, sv, rfl, by simpa [nearRows] using hacc, by rw [h10', h10], fun _ _ => rfl, Nat.le_refl _⟩
  | succ c ih =>
    intro i e T A acc n sv hi hG hS hR h2 h3 h8 h9 h10 h11 hacc hN hl hni
    obtain ⟨T1, A1, sv1, hT1, hacc1, hold1, hn1, g2, g3, g8, g9, g10, g11⟩ := step12 (K := K) (run := run) (cf := cf) (M := M) (g := g) (rd := rd) (D := D) (m := m) hw hG hS hR hn (by omega) h2 h3 h8 h9 h10 h11 hacc hg hN hl (by omega)
    rw [show c + 1 + 1 + e = (c + 1 + e) + 1 by omega, iterA_succ, hT1, seqA_normal]
    have hw1 : wr .i64 ((i : Int) + 1) = ((i + 1 : Nat) : Int) := by rw [wr_id (by omega) (by omega)]; simp
    have hlen : ∃ n1, (if awayV w cell i ≤ far then acc ++ rowS i tlo thi rlo rhi else acc).length = n1 * 5 ∧ n1 ≤ i + 1 := by
      split
      · exact ⟨n + 1, by simp [rowS, hl]; omega, by omega⟩
      · exact ⟨n, hl, by omega⟩
    obtain ⟨n1, hl1, hn1'⟩ := hlen
    obtain ⟨T2, A2, sv2, hT2, hacc2, h210, hold2, hn2⟩ := ih (i + 1) e T1 A1 _ n1 sv1 (by omega) (by rw [hold1 G hGN]; exact hG) (by rw [hold1 S hSN]; exact hS) (by rw [hold1 R hRN]; exact hR)
      (by rw [g2, h2]) (by rw [g3, h3]) (by rw [g8, h8]) (by rw [g9, h9]) g10 (by rw [g11, hw1]) hacc1 (by omega) hl1 hn1'
    refine ⟨T2, A2, sv2, hT2, ?_, h210, fun z hz => by rw [hold2 z hz, hold1 z hz], by omega⟩
    have e1 : (if awayV w cell i ≤ far then acc ++ rowS i tlo thi rlo rhi else acc) ++ nearRows w cell far tlo thi rlo rhi (i + 1) c = acc ++ nearRows w cell far tlo thi rlo rhi i (c + 1) := by
      simp only [nearRows]
      split <;> simp
    rw [← e1]; exact hacc2
end
end Go.Ab.Wave
namespace Go.Ab.Wave
open Go Go.Ab
def mn2 (a b : Int) : Int := if b < a then b else a
theorem minA_ints (a b : Int) : minA [.int .i64 a, .int .i64 b] = some (.int .i64 (mn2 a b)) := by
  simp [minA, foldInt, mn2]
section
variable {A : Hp} {G S R n : Nat} {sl sv : Value} {w h s k cell cl tlo thi rlo rhi far x v : Int} {run : ACode → RunFn} {cf : Nat → Nat → List Value → Hp → Option (Value × Hp)} {K : Nat → Option Spec} {M g N : Nat} {rd : Option Nat} {D : List Nat} {acc : List Value}
theorem end39 {T : List Value} {u : Int} (hG : A.get G = some (.cells [J w, J h, J s, sl] false)) (h2 : tget T 2 = .pointer (some ⟨G, 0, none⟩)) (h6 : tget T 6 = J far) (h9 : tget T 9 = J x) (h12 : tget T 12 = J u)
    (hlt : ¬ u ≤ mn2 (wr .i64 (w - 1)) (wr .i64 (x + far))) :
    ∃ T', codeA (callV AP K run) cf M body39 g rd ⟨T, D, A⟩ = some (.exit 3, ⟨T', D, A⟩) ∧ tget T' 2 = tget T 2 ∧ tget T' 3 = tget T 3 ∧ tget T' 6 = tget T 6 ∧ tget T' 7 = tget T 7 ∧ tget T' 8 = tget T 8 ∧ tget T' 9 = tget T 9 ∧ tget T' 10 = tget T 10 ∧ tget T' 11 = tget T 11 := by
  simp only [J] at hG h6 h9 h12
  simp [body39, codeA_skip, codeA_seq, codeA_ops, codeA_cond, codeA_block, codeA_ret, codeA_exit, opsA_cons, operA_plain, operA_guard, wantedA_some, thenPut_some, opA, ev_t, ev_k, putA_some, putA_none, seqA_normal, seqA_exit, seqA_ret, inBlk_normal, inBlk_ret, condA_true, condA_false, J, binA, intA, kEq, pureV, pickA, fieldAddrA, negA, slitA, fillA, setRange, zeros5, Value.cells, minA_ints, h2, h6, h9, h12, load_cell hG, hlt]
theorem step39 {T : List Value} {u : Int} (hG : A.get G = some (.cells [J w, J h, J s, sl] false)) (hS : A.get S = some (.cells [J k, J cell, J cl, J tlo, J thi] false)) (hR : A.get R = some (.cells [J rlo, J rhi] false))
    (h2 : tget T 2 = .pointer (some ⟨G, 0, none⟩)) (h3 : tget T 3 = .pointer (some ⟨S, 0, none⟩)) (h6 : tget T 6 = J far) (h7 : tget T 7 = .pointer (some ⟨R, 0, none⟩)) (h8 : tget T 8 = sv) (h9 : tget T 9 = J x) (h11 : tget T 11 = J v) (h12 : tget T 12 = J u)
    (hle : u ≤ mn2 (wr .i64 (w - 1)) (wr .i64 (x + far))) (hacc : AccS N A 5 acc sv) (hg : g ≤ N) (hN : N ≤ A.n) (hl : acc.length = n * 5) (hroom : n < 1000000) :
    ∃ T' A' sv', codeA (callV AP K run) cf M body39 g rd ⟨T, D, A⟩ = some (.normal, ⟨T', D, A'⟩) ∧ AccS N A' 5 (acc ++ rowS (wr .i64 (wr .i64 (v * w) + u)) tlo thi rlo rhi) sv' ∧ (∀ z, z < N → A'.get z = A.get z) ∧ A.n ≤ A'.n ∧
      tget T' 2 = tget T 2 ∧ tget T' 3 = tget T 3 ∧ tget T' 6 = tget T 6 ∧ tget T' 7 = tget T 7 ∧ tget T' 8 = sv' ∧ tget T' 9 = tget T 9 ∧ tget T' 10 = tget T 10 ∧ tget T' 11 = tget T 11 ∧ tget T' 12 = J (wr .i64 (u + 1)) := by
  have hacc1 := hacc.mono (A' := A.push (.cells (rowS (wr .i64 (wr .i64 (v * w) + u)) tlo thi rlo rhi) false)) fun x hx => by rw [Hp.get_push, if_neg (by omega)]
  obtain ⟨sv', A', happ, hac', hold, hn'⟩ := append_acc (g := g) (bytes := 40) (y := A.n) (new := rowS (wr .i64 (wr .i64 (v * w) + u)) tlo thi rlo rhi) (ro := false) hacc1 hg (by simp; omega) (by rw [Hp.get_push, if_pos rfl]) rfl (by decide) rfl hl
    (by simp only [room]; omega)
  have hl3 : loadA A (.pointer (some ⟨S, 3, none⟩)) (some 2) = some (.agg ⟨[J tlo, J thi]⟩) := by simp [loadA, hS, partA]
  have hl9 : loadA A (.pointer (some ⟨R, 0, none⟩)) (some 2) = some (.agg ⟨[J rlo, J rhi]⟩) := by simp [loadA, hR, partA]
  have hold' : ∀ z, z < N → A'.get z = A.get z := fun z hz => by rw [hold z hz, Hp.get_push, if_neg (by omega)]
  simp only [J, rowS] at hG hS hR h6 h9 h11 h12 happ hl3 hl9
  obtain ⟨T', hT', hts⟩ : ∃ T', codeA (callV AP K run) cf M body39 g rd ⟨T, D, A⟩ = some (.normal, ⟨T', D, A'⟩) ∧ (tget T' 2 = tget T 2 ∧ tget T' 3 = tget T 3 ∧ tget T' 6 = tget T 6 ∧ tget T' 7 = tget T 7 ∧ tget T' 8 = sv' ∧ tget T' 9 = tget T 9 ∧ tget T' 10 = tget T 10 ∧ tget T' 11 = tget T 11 ∧ tget T' 12 = J (wr .i64 (u + 1))) := by
    simp [body39, codeA_skip, codeA_seq, codeA_ops, codeA_cond, codeA_block, codeA_ret, codeA_exit, opsA_cons, operA_plain, operA_guard, wantedA_some, thenPut_some, opA, ev_t, ev_k, putA_some, putA_none, seqA_normal, seqA_exit, seqA_ret, inBlk_normal, inBlk_ret, condA_true, condA_false, J, binA, intA, kEq, pureV, pickA, fieldAddrA, negA, slitA, fillA, setRange, zeros5, Value.cells, minA_ints, h2, h3, h6, h7, h8, h9, h11, h12, load_cell hG, load_cell hS, hle, hl3, hl9, happ]
  exact ⟨T', A', sv', hT', hac', hold', by rw [hn', Hp.n_push]; omega, hts⟩
def rowsU (w v tlo thi rlo rhi : Int) : Int → Nat → List Value
  | _, 0 => []
  | u, c + 1 => rowS (wr .i64 (wr .i64 (v * w) + u)) tlo thi rlo rhi ++ rowsU w v tlo thi rlo rhi (u + 1) c
theorem rowsU_length (w v tlo thi rlo rhi : Int) : ∀ (c : Nat) (u : Int), (rowsU w v tlo thi rlo rhi u c).length = c * 5 := by
  intro c
  induction c with
  | zero => intro u; rfl
  | succ c ih => intro u; simp [rowsU, rowS, ih]; omega
theorem loop39 (hGN : G < N) (hSN : S < N) (hRN : R < N) (hg : g ≤ N) {hi : Int} (hhi : hi = mn2 (wr .i64 (w - 1)) (wr .i64 (x + far))) (hb : hi < 1000000) :
    ∀ (c : Nat) (u : Int) (e : Nat) (T : List Value) (A : Hp) (acc : List Value) (n : Nat) (sv : Value), u + c = hi + 1 ∨ (c = 0 ∧ hi < u) → 0 ≤ u → A.get G = some (.cells [J w, J h, J s, sl] false) → A.get S = some (.cells [J k, J cell, J cl, J tlo, J thi] false) → A.get R = some (.cells [J rlo, J rhi] false) →
      tget T 2 = .pointer (some ⟨G, 0, none⟩) → tget T 3 = .pointer (some ⟨S, 0, none⟩) → tget T 6 = J far → tget T 7 = .pointer (some ⟨R, 0, none⟩) → tget T 8 = sv → tget T 9 = J x → tget T 11 = J v → tget T 12 = J u → AccS N A 5 acc sv → N ≤ A.n → acc.length = n * 5 → n + c < 1000000 →
      ∃ T' A' sv', iterA (codeA (callV AP K run) cf M body39) (c + 1 + e) g rd ⟨T, D, A⟩ = some (.exit 3, ⟨T', D, A'⟩) ∧ AccS N A' 5 (acc ++ rowsU w v tlo thi rlo rhi u c) sv' ∧ (∀ z, z < N → A'.get z = A.get z) ∧ A.n ≤ A'.n ∧
        tget T' 2 = tget T 2 ∧ tget T' 3 = tget T 3 ∧ tget T' 6 = tget T 6 ∧ tget T' 7 = tget T 7 ∧ tget T' 8 = sv' ∧ tget T' 9 = tget T 9 ∧ tget T' 10 = tget T 10 ∧ tget T' 11 = tget T 11 := by
  intro c
  induction c with
  | zero =>
    intro u e T A acc n sv hu h0 hG hS hR h2 h3 h6 h7 h8 h9 h11 h12 hacc hN hl hroom
    obtain ⟨T', hT', k2, k3, k6, k7, k8, k9, k10, k11⟩ := end39 (K := K) (run := run) (cf := cf) (M := M) (g := g) (rd := rd) (D := D) hG h2 h6 h9 h12 (by rw [← hhi]; omega)
    rw [show 0 + 1 + e = e + 1 by omega, iterA_succ, hT']
    exact ⟨T', A, sv, rfl, by simpa [rowsU] using hacc, fun _ _ => rfl, Nat.le_refl _, k2, k3, k6, k7, by rw [k8, h8], k9, k10, k11⟩
  | succ c ih =>
    intro u e T A acc n sv hu h0 hG hS hR h2 h3 h6 h7 h8 h9 h11 h12 hacc hN hl hroom
    have hu' : u + ((c + 1 : Nat) : Int) = hi + 1 := by
      rcases hu with h | h
      · exact h
      · omega
    obtain ⟨T1, A1, sv1, hT1, hacc1, hold1, hn1, k2, k3, k6, k7, k8, k9, k10, k11, k12⟩ := step39 (K := K) (run := run) (cf := cf) (M := M) (g := g) (rd := rd) (D := D) hG hS hR h2 h3 h6 h7 h8 h9 h11 h12 (by rw [← hhi]; omega) hacc hg hN hl (by omega)
    rw [show c + 1 + 1 + e = (c + 1 + e) + 1 by omega, iterA_succ, hT1, seqA_normal]
    obtain ⟨T2, A2, sv2, hT2, hacc2, hold2, hn2, j2, j3, j6, j7, j8, j9, j10, j11⟩ := ih (u + 1) e T1 A1 _ (n + 1) sv1 (by omega) (by omega) (by rw [hold1 G hGN]; exact hG) (by rw [hold1 S hSN]; exact hS) (by rw [hold1 R hRN]; exact hR)
      (by rw [k2, h2]) (by rw [k3, h3]) (by rw [k6, h6]) (by rw [k7, h7]) k8 (by rw [k9, h9]) (by rw [k11, h11]) (by rw [k12, wr_id (by omega) (by omega)]) hacc1 (by omega) (by simp [rowS, hl]; omega) (by omega)
    exact ⟨T2, A2, sv2, hT2, by simpa [rowsU] using hacc2, fun z hz => by rw [hold2 z hz, hold1 z hz], by omega, by rw [j2, k2], by rw [j3, k3], by rw [j6, k6], by rw [j7, k7], j8, by rw [j9, k9], by rw [j10, k10], by rw [j11, k11]⟩
end
end Go.Ab.Wave
namespace Go.Ab.Wave
open Go Go.Ab
def mx2 (a b : Int) : Int := if b > a then b else a
theorem maxA_two (a b : Int) : maxA [.int .i64 a, .int .i64 b] = some (.int .i64 (mx2 a b)) := by
  simp [maxA, foldInt, mx2]
def grd39 : ACode := (.seq
 (.ops [
oM 49 11,
oF 50 2 1,
oL 51 50,
oC 52 .sub 51 1,
oM 53 10,
oM 54 6,
oB 55 .add 53 54,
oP 56 (.min [.t 52, .t 55]),
oB 57 .leq 49 56])
 (.cond (.t 57)
 .skip
 (.exit 1)))
def ini39 : ACode := (.ops [
oM 60 9,
oM 61 6,
oB 62 .sub 60 61,
oP 63 (.max [.k (.int .i64 0), .t 62]),
oM 12 63])
def inc39 : ACode := (.ops [
oM 58 11,
oC 59 .add 58 1,
oM 11 59])
def out39 : ACode := .seq grd39 (.seq (.block 2 (.seq ini39 (.block 3 (.loop body39)))) inc39)
section
variable {A : Hp} {G : Nat} {sl : Value} {w h s far x y v : Int} {run : ACode → RunFn} {cf : Nat → Nat → List Value → Hp → Option (Value × Hp)} {K : Nat → Option Spec} {M g : Nat} {rd : Option Nat} {D : List Nat}
theorem grd39_run {T : List Value} (hG : A.get G = some (.cells [J w, J h, J s, sl] false)) (h2 : tget T 2 = .pointer (some ⟨G, 0, none⟩)) (h6 : tget T 6 = J far) (h10 : tget T 10 = J y) (h11 : tget T 11 = J v) :
    ∃ T', codeA (callV AP K run) cf M grd39 g rd ⟨T, D, A⟩ = some (if v ≤ mn2 (wr .i64 (h - 1)) (wr .i64 (y + far)) then .normal else .exit 1, ⟨T', D, A⟩) ∧ (∀ i, i < 13 → tget T' i = tget T i) := by
  simp only [J] at hG h6 h10 h11
  by_cases hc : v ≤ mn2 (wr .i64 (h - 1)) (wr .i64 (y + far))
  · simp [grd39, codeA_skip, codeA_seq, codeA_ops, codeA_cond, codeA_block, codeA_ret, codeA_exit, opsA_cons, operA_plain, thenPut_some, opA, ev_t, ev_k, putA_some, putA_none, seqA_normal, seqA_exit, seqA_ret, inBlk_normal, inBlk_ret, condA_true, condA_false, J, binA, intA, kEq, pureV, fieldAddrA, minA_ints, maxA_two, h2, h6, h10, h11, load_cell hG, hc]
    intro i hi
    repeat (rw [if_neg (by omega)])
  · simp [grd39, codeA_skip, codeA_seq, codeA_ops, codeA_cond, codeA_block, codeA_ret, codeA_exit, opsA_cons, operA_plain, thenPut_some, opA, ev_t, ev_k, putA_some, putA_none, seqA_normal, seqA_exit, seqA_ret, inBlk_normal, inBlk_ret, condA_true, condA_false, J, binA, intA, kEq, pureV, fieldAddrA, minA_ints, maxA_two, h2, h6, h10, h11, load_cell hG, hc]
    intro i hi
    repeat (rw [if_neg (by omega)])
theorem ini39_run {T : List Value} (h6 : tget T 6 = J far) (h9 : tget T 9 = J x) :
    ∃ T', codeA (callV AP K run) cf M ini39 g rd ⟨T, D, A⟩ = some (.normal, ⟨T', D, A⟩) ∧ tget T' 12 = J (mx2 0 (wr .i64 (x - far))) ∧ (∀ i, i < 12 → tget T' i = tget T i) := by
  simp only [J] at h6 h9
  simp [ini39, codeA_skip, codeA_seq, codeA_ops, codeA_cond, codeA_block, codeA_ret, codeA_exit, opsA_cons, operA_plain, thenPut_some, opA, ev_t, ev_k, putA_some, putA_none, seqA_normal, seqA_exit, seqA_ret, inBlk_normal, inBlk_ret, condA_true, condA_false, J, binA, intA, kEq, pureV, fieldAddrA, minA_ints, maxA_two, h6, h9]
  intro i hi
  repeat (rw [if_neg (by omega)])
theorem inc39_run {T : List Value} (h11 : tget T 11 = J v) :
    ∃ T', codeA (callV AP K run) cf M inc39 g rd ⟨T, D, A⟩ = some (.normal, ⟨T', D, A⟩) ∧ tget T' 11 = J (wr .i64 (v + 1)) ∧ (∀ i, i < 11 → tget T' i = tget T i) := by
  simp only [J] at h11
  simp [inc39, codeA_skip, codeA_seq, codeA_ops, codeA_cond, codeA_block, codeA_ret, codeA_exit, opsA_cons, operA_plain, thenPut_some, opA, ev_t, ev_k, putA_some, putA_none, seqA_normal, seqA_exit, seqA_ret, inBlk_normal, inBlk_ret, condA_true, condA_false, J, binA, intA, kEq, pureV, fieldAddrA, minA_ints, maxA_two, h11]
  intro i hi
  repeat (rw [if_neg (by omega)])
variable {S R n N : Nat} {sv : Value} {k cell cl tlo thi rlo rhi : Int} {acc : List Value}
theorem out39_step {T : List Value} {hi : Int} {c : Nat} (hGN : G < N) (hSN : S < N) (hRN : R < N) (hg : g ≤ N) (hhi : hi = mn2 (wr .i64 (w - 1)) (wr .i64 (x + far))) (hb : hi < 1000000)
    (hu0 : mx2 0 (wr .i64 (x - far)) + c = hi + 1 ∨ (c = 0 ∧ hi < mx2 0 (wr .i64 (x - far)))) (hM : c + 1 ≤ M) (hroom : n + c < 1000000)
    (hG : A.get G = some (.cells [J w, J h, J s, sl] false)) (hS : A.get S = some (.cells [J k, J cell, J cl, J tlo, J thi] false)) (hR : A.get R = some (.cells [J rlo, J rhi] false))
    (h2 : tget T 2 = .pointer (some ⟨G, 0, none⟩)) (h3 : tget T 3 = .pointer (some ⟨S, 0, none⟩)) (h6 : tget T 6 = J far) (h7 : tget T 7 = .pointer (some ⟨R, 0, none⟩)) (h8 : tget T 8 = sv) (h9 : tget T 9 = J x) (h10 : tget T 10 = J y) (h11 : tget T 11 = J v)
    (hle : v ≤ mn2 (wr .i64 (h - 1)) (wr .i64 (y + far))) (hacc : AccS N A 5 acc sv) (hN : N ≤ A.n) (hl : acc.length = n * 5) :
    ∃ T' A' sv', codeA (callV AP K run) cf M out39 g rd ⟨T, D, A⟩ = some (.normal, ⟨T', D, A'⟩) ∧ AccS N A' 5 (acc ++ rowsU w v tlo thi rlo rhi (mx2 0 (wr .i64 (x - far))) c) sv' ∧ (∀ z, z < N → A'.get z = A.get z) ∧ A.n ≤ A'.n ∧
      tget T' 2 = tget T 2 ∧ tget T' 3 = tget T 3 ∧ tget T' 6 = tget T 6 ∧ tget T' 7 = tget T 7 ∧ tget T' 8 = sv' ∧ tget T' 9 = tget T 9 ∧ tget T' 10 = tget T 10 ∧ tget T' 11 = J (wr .i64 (v + 1)) := by
  obtain ⟨T1, e1, k1⟩ := grd39_run (K := K) (run := run) (cf := cf) (M := M) (g := g) (rd := rd) (D := D) hG h2 h6 h10 h11
  rw [if_pos hle] at e1
  obtain ⟨T2, e2, k12, k2⟩ := ini39_run (K := K) (run := run) (cf := cf) (M := M) (g := g) (rd := rd) (D := D) (A := A) (by rw [k1 6 (by omega), h6]) (by rw [k1 9 (by omega), h9])
  have kk : ∀ i, i < 12 → tget T2 i = tget T i := fun i hi => by rw [k2 i hi, k1 i (by omega)]
  obtain ⟨e, rfl⟩ : ∃ e, M = c + 1 + e := ⟨M - (c + 1), by omega⟩
  have hu00 : 0 ≤ mx2 0 (wr .i64 (x - far)) := by unfold mx2; split <;> omega
  obtain ⟨T3, A3, sv3, e3, a3, o3, n3, j2, j3, j6, j7, j8, j9, j10, j11⟩ := loop39 (K := K) (run := run) (cf := cf) (M := c + 1 + e) (g := g) (rd := rd) (D := D) hGN hSN hRN hg hhi hb c _ e T2 A acc n sv hu0 hu00 hG hS hR
    (by rw [kk 2 (by omega), h2]) (by rw [kk 3 (by omega), h3]) (by rw [kk 6 (by omega), h6]) (by rw [kk 7 (by omega), h7]) (by rw [kk 8 (by omega), h8]) (by rw [kk 9 (by omega), h9]) (by rw [kk 11 (by omega), h11]) k12 hacc hN hl hroom
  obtain ⟨T4, e4, k411, k4⟩ := inc39_run (K := K) (run := run) (cf := cf) (M := c + 1 + e) (g := g) (rd := rd) (D := D) (A := A3) (T := T3) (v := v) (by rw [j11, kk 11 (by omega), h11])
  refine ⟨T4, A3, sv3, ?_, a3, o3, n3, ?_, ?_, ?_, ?_, ?_, ?_, ?_, k411⟩
  · rw [out39, codeA_seq, e1, seqA_normal, codeA_seq, codeA_block, codeA_seq, e2, seqA_normal, codeA_block, codeA_loop, e3]
    simp only [inBlk_exit, if_true, inBlk_normal, seqA_normal]
    exact e4
  · rw [k4 2 (by omega), j2, kk 2 (by omega)]
  · rw [k4 3 (by omega), j3, kk 3 (by omega)]
  · rw [k4 6 (by omega), j6, kk 6 (by omega)]
  · rw [k4 7 (by omega), j7, kk 7 (by omega)]
  · rw [k4 8 (by omega), j8]
  · rw [k4 9 (by omega), j9, kk 9 (by omega)]
  · rw [k4 10 (by omega), j10, kk 10 (by omega)]
def rowsV (w tlo thi rlo rhi u0 : Int) (c : Nat) : Int → Nat → List Value
  | _, 0 => []
  | v, d + 1 => rowsU w v tlo thi rlo rhi u0 c ++ rowsV w tlo thi rlo rhi u0 c (v + 1) d
theorem loop39o {hi hv : Int} {c : Nat} (hGN : G < N) (hSN : S < N) (hRN : R < N) (hg : g ≤ N) (hhi : hi = mn2 (wr .i64 (w - 1)) (wr .i64 (x + far))) (hb : hi < 1000000)
    (hu0 : mx2 0 (wr .i64 (x - far)) + c = hi + 1 ∨ (c = 0 ∧ hi < mx2 0 (wr .i64 (x - far)))) (hM : c + 1 ≤ M) (hhv : hv = mn2 (wr .i64 (h - 1)) (wr .i64 (y + far))) (hbv : hv < 1000000) :
    ∀ (d : Nat) (v : Int) (e : Nat) (T : List Value) (A : Hp) (acc : List Value) (n : Nat) (sv : Value), v + d = hv + 1 ∨ (d = 0 ∧ hv < v) → 0 ≤ v → n + d * c + c < 1000000 →
      A.get G = some (.cells [J w, J h, J s, sl] false) → A.get S = some (.cells [J k, J cell, J cl, J tlo, J thi] false) → A.get R = some (.cells [J rlo, J rhi] false) →
      tget T 2 = .pointer (some ⟨G, 0, none⟩) → tget T 3 = .pointer (some ⟨S, 0, none⟩) → tget T 6 = J far → tget T 7 = .pointer (some ⟨R, 0, none⟩) → tget T 8 = sv → tget T 9 = J x → tget T 10 = J y → tget T 11 = J v → AccS N A 5 acc sv → N ≤ A.n → acc.length = n * 5 →
      ∃ T' A' sv', iterA (codeA (callV AP K run) cf M out39) (d + 1 + e) g rd ⟨T, D, A⟩ = some (.exit 1, ⟨T', D, A'⟩) ∧ AccS N A' 5 (acc ++ rowsV w tlo thi rlo rhi (mx2 0 (wr .i64 (x - far))) c v d) sv' ∧ (∀ z, z < N → A'.get z = A.get z) ∧ A.n ≤ A'.n ∧ tget T' 8 = sv' := by
  intro d
  induction d with
  | zero =>
    intro v e T A acc n sv hv0 h0 hroom hG hS hR h2 h3 h6 h7 h8 h9 h10 h11 hacc hN hl
    obtain ⟨T', hT', kk⟩ := grd39_run (K := K) (run := run) (cf := cf) (M := M) (g := g) (rd := rd) (D := D) hG h2 h6 h10 h11
    rw [if_neg (by rw [← hhv]; omega)] at hT'
    rw [show 0 + 1 + e = e + 1 by omega, iterA_succ, out39, codeA_seq, hT']
    exact ⟨T', A, sv, rfl, by simpa [rowsV] using hacc, fun _ _ => rfl, Nat.le_refl _, by rw [kk 8 (by omega), h8]⟩
  | succ d ih =>
    intro v e T A acc n sv hv0 h0 hroom hG hS hR h2 h3 h6 h7 h8 h9 h10 h11 hacc hN hl
    have hv1 : v + ((d + 1 : Nat) : Int) = hv + 1 := by
      rcases hv0 with h | h
      · exact h
      · omega
    have hmul : (d + 1) * c = d * c + c := Nat.succ_mul d c
    obtain ⟨T1, A1, sv1, hT1, hacc1, hold1, hn1, k2, k3, k6, k7, k8, k9, k10, k11⟩ := out39_step (K := K) (run := run) (cf := cf) (M := M) (g := g) (rd := rd) (D := D) hGN hSN hRN hg hhi hb hu0 hM (by omega) hG hS hR h2 h3 h6 h7 h8 h9 h10 h11 (by rw [← hhv]; omega) hacc hN hl
    rw [show d + 1 + 1 + e = (d + 1 + e) + 1 by omega, iterA_succ, hT1, seqA_normal]
    obtain ⟨T2, A2, sv2, hT2, hacc2, hold2, hn2, j8⟩ := ih (v + 1) e T1 A1 _ (n + c) sv1 (by omega) (by omega) (by omega) (by rw [hold1 G hGN]; exact hG) (by rw [hold1 S hSN]; exact hS) (by rw [hold1 R hRN]; exact hR)
      (by rw [k2, h2]) (by rw [k3, h3]) (by rw [k6, h6]) (by rw [k7, h7]) k8 (by rw [k9, h9]) (by rw [k10, h10]) (by rw [k11, wr_id (by omega) (by omega)]) hacc1 (by omega) (by rw [List.length_append, hl, rowsU_length, Nat.add_mul])
    exact ⟨T2, A2, sv2, hT2, by simpa [rowsV] using hacc2, fun z hz => by rw [hold2 z hz, hold1 z hz], by omega, j8⟩
end
end Go.Ab.Wave
namespace Go.Ab.Wave
open Go Go.Ab
def pa39 : ACode := (.ops [
oP 2 (.box (.t 0)),
oP 3 (.box (.t 1)),
oP 4 (.move (.k (.slice none 0 0)))])
def pb39 : ACode := (.ops [
oF 13 3 2,
oL 14 13,
oP 15 (.bin .shl (oK 1) (.t 14)),
oM 5 15,
oP 6 (.move (oK 0))])
def pc39 : ACode := (.ops [
oM 16 5,
oC 17 .quo 16 2,
oM 18 5,
oP 19 (.build [.int .i64 0, .int .i64 0] [(0, 1, .t 17), (1, 1, .t 18)]),
oP 7 (.alloc [.int .i64 0, .int .i64 0]),
oT 7 19 2])
def pd39 : ACode := (.seq
 (.ops [
oF 20 3 0,
oL 21 20])
 (.block 0
 (.seq
 (.ops [
oC 23 .eql 21 1,
oM 22 23])
 (.cond (.t 22)
 (.ops [
oF 24 3 2,
oL 25 24,
oC 26 .quo 25 4,
oM 6 26])
 (.seq
 (.ops [
oC 28 .eql 21 2,
oM 27 28])
 (.cond (.t 27)
 (.ops [
oM 29 5,
oM 30 5,
oP 31 (.bin .mul (oK 2) (.t 30)),
oP 32 (.build [.int .i64 0, .int .i64 0] [(0, 1, .t 29), (1, 1, .t 31)]),
oT 7 32 2])
 (.seq
 (.ops [
oC 34 .eql 21 3,
oM 33 34])
 (.cond (.t 33)
 (.ops [
oP 6 (.move (oK 1))])
 .skip))))))))
def pe39 : ACode := (.ops [
oP 8 (.move (.k (.slice none 0 0)))])
def pf39 : ACode := (.ops [
oF 35 3 1,
oL 36 35,
oF 37 2 0,
oL 38 37,
oB 39 .rem 36 38,
oF 40 3 1,
oL 41 40,
oF 42 2 0,
oL 43 42,
oB 44 .quo 41 43,
oM 9 39,
oM 10 44])
def pg39 : ACode := (.ops [
oM 45 10,
oM 46 6,
oB 47 .sub 45 46,
oP 48 (.max [.k (.int .i64 0), .t 47]),
oM 11 48])
def ph39 : ACode := (.seq
 (.ops [
oM 88 8,
oM 4 88])
 .ret)
theorem AP39 : AP 39 = some (.fn 89 [.tmp 4] (.seq pa39 (.seq pb39 (.seq pc39 (.seq pd39 (.seq pe39 (.seq pf39 (.seq (.seq pg39 (.block 1 (.loop out39))) ph39)))))))) := rfl
section
variable {A : Hp} {G S R : Nat} {sl : Value} {w h s k cell cl tlo thi p far x y a b : Int} {run : ACode → RunFn} {cf : Nat → Nat → List Value → Hp → Option (Value × Hp)} {K : Nat → Option Spec} {M g : Nat} {rd : Option Nat} {D : List Nat}
theorem pb39_run {T : List Value} (hS : A.get S = some (.cells [J k, J cell, J cl, J tlo, J thi] false)) (h3 : tget T 3 = .pointer (some ⟨S, 0, none⟩)) (hsh : shA true .i64 1 cl = some (J p)) :
    ∃ T', codeA (callV AP K run) cf M pb39 g rd ⟨T, D, A⟩ = some (.normal, ⟨T', D, A⟩) ∧ tget T' 5 = J p ∧ tget T' 6 = J 0 ∧ (∀ i, i < 5 → tget T' i = tget T i) := by
  simp only [J] at hS hsh
  simp [pb39, codeA_skip, codeA_seq, codeA_ops, codeA_cond, codeA_block, codeA_ret, codeA_exit, opsA_cons, operA_plain, thenPut_some, opA, ev_t, ev_k, putA_some, putA_none, seqA_normal, seqA_exit, seqA_ret, inBlk_normal, inBlk_ret, condA_true, condA_false, J, binA, intA, kEq, pureV, fieldAddrA, allocA, storeV, Value.cells, fillA, setRange, maxA_two, h3, load_cell hS, hsh]
  intro i hi
  repeat (rw [if_neg (by omega)])
theorem pf39_run {T : List Value} (hw : w ≠ 0) (hG : A.get G = some (.cells [J w, J h, J s, sl] false)) (hS : A.get S = some (.cells [J k, J cell, J cl, J tlo, J thi] false)) (h2 : tget T 2 = .pointer (some ⟨G, 0, none⟩)) (h3 : tget T 3 = .pointer (some ⟨S, 0, none⟩)) :
    ∃ T', codeA (callV AP K run) cf M pf39 g rd ⟨T, D, A⟩ = some (.normal, ⟨T', D, A⟩) ∧ tget T' 9 = J (cell.tmod w) ∧ tget T' 10 = J (wr .i64 (cell.tdiv w)) ∧ (∀ i, i < 9 → tget T' i = tget T i) := by
  simp only [J] at hG hS
  simp [pf39, codeA_skip, codeA_seq, codeA_ops, codeA_cond, codeA_block, codeA_ret, codeA_exit, opsA_cons, operA_plain, thenPut_some, opA, ev_t, ev_k, putA_some, putA_none, seqA_normal, seqA_exit, seqA_ret, inBlk_normal, inBlk_ret, condA_true, condA_false, J, binA, intA, kEq, pureV, fieldAddrA, allocA, storeV, Value.cells, fillA, setRange, maxA_two, h2, h3, load_cell hG, load_cell hS, hw]
  intro i hi
  repeat (rw [if_neg (by omega)])
theorem pg39_run {T : List Value} (h6 : tget T 6 = J far) (h10 : tget T 10 = J y) :
    ∃ T', codeA (callV AP K run) cf M pg39 g rd ⟨T, D, A⟩ = some (.normal, ⟨T', D, A⟩) ∧ tget T' 11 = J (mx2 0 (wr .i64 (y - far))) ∧ (∀ i, i < 11 → tget T' i = tget T i) := by
  simp only [J] at h6 h10
  simp [pg39, codeA_skip, codeA_seq, codeA_ops, codeA_cond, codeA_block, codeA_ret, codeA_exit, opsA_cons, operA_plain, thenPut_some, opA, ev_t, ev_k, putA_some, putA_none, seqA_normal, seqA_exit, seqA_ret, inBlk_normal, inBlk_ret, condA_true, condA_false, J, binA, intA, kEq, pureV, fieldAddrA, allocA, storeV, Value.cells, fillA, setRange, maxA_two, h6, h10]
  intro i hi
  repeat (rw [if_neg (by omega)])
theorem pc39_run {T : List Value} (hg : g ≤ A.n) (h5 : tget T 5 = J p) :
    ∃ T', codeA (callV AP K run) cf M pc39 g rd ⟨T, D, A⟩ = some (.normal, ⟨T', D, lay A (wr .i64 (p.tdiv 2)) p⟩) ∧ tget T' 7 = .pointer (some ⟨A.n, 0, none⟩) ∧ (∀ i, i < 7 → tget T' i = tget T i) := by
  have hst := lay_store (A := A) (a := wr .i64 (p.tdiv 2)) (b := p) hg
  simp only [J] at h5
  simp [pc39, codeA_skip, codeA_seq, codeA_ops, codeA_cond, codeA_block, codeA_ret, codeA_exit, opsA_cons, operA_plain, thenPut_some, opA, ev_t, ev_k, putA_some, putA_none, seqA_normal, seqA_exit, seqA_ret, inBlk_normal, inBlk_ret, condA_true, condA_false, J, binA, intA, kEq, pureV, fieldAddrA, allocA, storeV, Value.cells, fillA, setRange, maxA_two, h5, hst]
  intro i hi
  repeat (rw [if_neg (by omega)])
theorem pe39_run {T : List Value} :
    ∃ T', codeA (callV AP K run) cf M pe39 g rd ⟨T, D, A⟩ = some (.normal, ⟨T', D, A⟩) ∧ tget T' 8 = .slice none 0 0 ∧ (∀ i, i < 8 → tget T' i = tget T i) := by
  simp [pe39, codeA_skip, codeA_seq, codeA_ops, codeA_cond, codeA_block, codeA_ret, codeA_exit, opsA_cons, operA_plain, thenPut_some, opA, ev_t, ev_k, putA_some, putA_none, seqA_normal, seqA_exit, seqA_ret, inBlk_normal, inBlk_ret, condA_true, condA_false, J, binA, intA, kEq, pureV, fieldAddrA, allocA, storeV, Value.cells, fillA, setRange, maxA_two]
  intro i hi h8
  omega
theorem store_pair {c d : Int} (hR : A.get R = some (.cells [J a, J b] false)) (hg : g ≤ R) : storeA g A (.pointer (some ⟨R, 0, none⟩)) (.agg ⟨[.int .i64 c, .int .i64 d]⟩) 2 = some (A.set R (some (.cells [J c, J d] false))) := by
  simp only [storeA, Value.cells]
  simp [writeA, hg, hR, isCell, setRange, J]
theorem pd39_one {T : List Value} (hS : A.get S = some (.cells [J 1, J cell, J cl, J tlo, J thi] false)) (h3 : tget T 3 = .pointer (some ⟨S, 0, none⟩)) :
    ∃ T', codeA (callV AP K run) cf M pd39 g rd ⟨T, D, A⟩ = some (.normal, ⟨T', D, A⟩) ∧ tget T' 6 = J (wr .i64 (cl.tdiv 4)) ∧ tget T' 7 = tget T 7 ∧ (∀ i, i < 6 → tget T' i = tget T i) := by
  simp only [J] at hS
  simp [pd39, codeA_skip, codeA_seq, codeA_ops, codeA_cond, codeA_block, codeA_ret, codeA_exit, opsA_cons, operA_plain, thenPut_some, opA, ev_t, ev_k, putA_some, putA_none, seqA_normal, seqA_exit, seqA_ret, inBlk_normal, inBlk_ret, condA_true, condA_false, J, binA, intA, kEq, pureV, fieldAddrA, allocA, storeV, Value.cells, fillA, setRange, maxA_two, h3, load_cell hS]
  intro i hi
  repeat (rw [if_neg (by omega)])
theorem pd39_three {T : List Value} (hS : A.get S = some (.cells [J 3, J cell, J cl, J tlo, J thi] false)) (h3 : tget T 3 = .pointer (some ⟨S, 0, none⟩)) :
    ∃ T', codeA (callV AP K run) cf M pd39 g rd ⟨T, D, A⟩ = some (.normal, ⟨T', D, A⟩) ∧ tget T' 6 = J 1 ∧ tget T' 7 = tget T 7 ∧ (∀ i, i < 6 → tget T' i = tget T i) := by
  simp only [J] at hS
  simp [pd39, codeA_skip, codeA_seq, codeA_ops, codeA_cond, codeA_block, codeA_ret, codeA_exit, opsA_cons, operA_plain, thenPut_some, opA, ev_t, ev_k, putA_some, putA_none, seqA_normal, seqA_exit, seqA_ret, inBlk_normal, inBlk_ret, condA_true, condA_false, J, binA, intA, kEq, pureV, fieldAddrA, allocA, storeV, Value.cells, fillA, setRange, maxA_two, h3, load_cell hS]
  intro i hi
  repeat (rw [if_neg (by omega)])
theorem pd39_two {T : List Value} (hS : A.get S = some (.cells [J 2, J cell, J cl, J tlo, J thi] false)) (hR : A.get R = some (.cells [J a, J b] false)) (hg : g ≤ R) (h3 : tget T 3 = .pointer (some ⟨S, 0, none⟩)) (h5 : tget T 5 = J p) (h7 : tget T 7 = .pointer (some ⟨R, 0, none⟩)) :
    ∃ T', codeA (callV AP K run) cf M pd39 g rd ⟨T, D, A⟩ = some (.normal, ⟨T', D, A.set R (some (.cells [J p, J (wr .i64 (2 * p))] false))⟩) ∧ tget T' 6 = tget T 6 ∧ tget T' 7 = tget T 7 ∧ (∀ i, i < 6 → tget T' i = tget T i) := by
  have hst := store_pair (c := p) (d := wr .i64 (2 * p)) hR hg
  simp only [J] at hS h5 hst
  simp [pd39, codeA_skip, codeA_seq, codeA_ops, codeA_cond, codeA_block, codeA_ret, codeA_exit, opsA_cons, operA_plain, thenPut_some, opA, ev_t, ev_k, putA_some, putA_none, seqA_normal, seqA_exit, seqA_ret, inBlk_normal, inBlk_ret, condA_true, condA_false, J, binA, intA, kEq, pureV, fieldAddrA, allocA, storeV, Value.cells, fillA, setRange, maxA_two, h3, h5, h7, load_cell hS, hst]
  intro i hi
  repeat (rw [if_neg (by omega)])
end
end Go.Ab.Wave
namespace Go.Ab.Wave
open Go Go.Ab
section
variable {A : Hp} {sl sv : Value} {w h s k cell cl tlo thi : Int} {run : ACode → RunFn} {cf : Nat → Nat → List Value → Hp → Option (Value × Hp)} {K : Nat → Option Spec} {M g : Nat} {rd : Option Nat} {D : List Nat}
def boxed (A : Hp) (w h s : Int) (sl : Value) (k cell cl tlo thi : Int) : Hp := (A.push (.cells [J w, J h, J s, sl] false)).push (.cells [J k, J cell, J cl, J tlo, J thi] false)
theorem pa39_run : ∃ T', codeA (callV AP K run) cf M pa39 g rd ⟨[gridV w h s sl, srcV k cell cl tlo thi], D, A⟩ = some (.normal, ⟨T', D, boxed A w h s sl k cell cl tlo thi⟩) ∧
    tget T' 2 = .pointer (some ⟨A.n, 0, none⟩) ∧ tget T' 3 = .pointer (some ⟨A.n + 1, 0, none⟩) := by
  simp [pa39, codeA_ops, opsA_cons, operA_plain, thenPut_some, opA, ev_t, ev_k, putA_some, allocA, Value.cells, gridV, srcV, J, boxed]
theorem ph39_run {T : List Value} (h8 : tget T 8 = sv) : ∃ T', codeA (callV AP K run) cf M ph39 g rd ⟨T, D, A⟩ = some (.ret, ⟨T', D, A⟩) ∧ tget T' 4 = sv := by
  simp [ph39, codeA_seq, codeA_ops, codeA_ret, seqA_normal, opsA_cons, operA_plain, thenPut_some, opA, ev_t, putA_some, h8]
variable {G S R N : Nat} {far rlo rhi : Int}
theorem tail39 {T : List Value} {hi hv : Int} {c d : Nat} (hw : w ≠ 0) (hGN : G < N) (hSN : S < N) (hRN : R < N) (hg : g ≤ N) (hN : N ≤ A.n)
    (hhi : hi = mn2 (wr .i64 (w - 1)) (wr .i64 (cell.tmod w + far))) (hb : hi < 1000000) (hu0 : mx2 0 (wr .i64 (cell.tmod w - far)) + c = hi + 1 ∨ (c = 0 ∧ hi < mx2 0 (wr .i64 (cell.tmod w - far))))
    (hhv : hv = mn2 (wr .i64 (h - 1)) (wr .i64 (wr .i64 (cell.tdiv w) + far))) (hbv : hv < 1000000) (hv0 : mx2 0 (wr .i64 (wr .i64 (cell.tdiv w) - far)) + d = hv + 1 ∨ (d = 0 ∧ hv < mx2 0 (wr .i64 (wr .i64 (cell.tdiv w) - far))))
    (hM : c + 1 ≤ M) (hM' : d + 1 ≤ M) (hroom : d * c + c < 1000000)
    (hG : A.get G = some (.cells [J w, J h, J s, sl] false)) (hS : A.get S = some (.cells [J k, J cell, J cl, J tlo, J thi] false)) (hR : A.get R = some (.cells [J rlo, J rhi] false))
    (h2 : tget T 2 = .pointer (some ⟨G, 0, none⟩)) (h3 : tget T 3 = .pointer (some ⟨S, 0, none⟩)) (h6 : tget T 6 = J far) (h7 : tget T 7 = .pointer (some ⟨R, 0, none⟩)) :
    ∃ T' A' sv', codeA (callV AP K run) cf M (.seq pe39 (.seq pf39 (.seq (.seq pg39 (.block 1 (.loop out39))) ph39))) g rd ⟨T, D, A⟩ = some (.ret, ⟨T', D, A'⟩) ∧ tget T' 4 = sv' ∧
      AccS N A' 5 (rowsV w tlo thi rlo rhi (mx2 0 (wr .i64 (cell.tmod w - far))) c (mx2 0 (wr .i64 (wr .i64 (cell.tdiv w) - far))) d) sv' := by
  obtain ⟨T1, e1, k18, k1⟩ := pe39_run (A := A) (T := T) (K := K) (run := run) (cf := cf) (M := M) (g := g) (rd := rd) (D := D)
  obtain ⟨T2, e2, k29, k210, k2⟩ := pf39_run (K := K) (run := run) (cf := cf) (M := M) (g := g) (rd := rd) (D := D) hw hG hS (T := T1) (by rw [k1 2 (by omega), h2]) (by rw [k1 3 (by omega), h3])
  have kk : ∀ i, i < 8 → tget T2 i = tget T i := fun i hi => by rw [k2 i (by omega), k1 i hi]
  obtain ⟨T3, e3, k311, k3⟩ := pg39_run (A := A) (K := K) (run := run) (cf := cf) (M := M) (g := g) (rd := rd) (D := D) (T := T2) (by rw [kk 6 (by omega), h6]) k210
  have k4 : ∀ i, i < 8 → tget T3 i = tget T i := fun i hi => by rw [k3 i (by omega), kk i hi]
  obtain ⟨e, he⟩ : ∃ e, M = d + 1 + e := ⟨M - (d + 1), by omega⟩
  have hv00 : 0 ≤ mx2 0 (wr .i64 (wr .i64 (cell.tdiv w) - far)) := by unfold mx2; split <;> omega
  obtain ⟨T4, A4, sv4, e4, a4, _, _, j8⟩ := loop39o (K := K) (run := run) (cf := cf) (M := M) (g := g) (rd := rd) (D := D) hGN hSN hRN hg hhi hb hu0 hM hhv hbv d _ e T3 A [] 0 _ hv0 hv00 (by omega) hG hS hR
    (by rw [k4 2 (by omega), h2]) (by rw [k4 3 (by omega), h3]) (by rw [k4 6 (by omega), h6]) (by rw [k4 7 (by omega), h7]) (by rw [k3 8 (by omega), k2 8 (by omega), k18]) (by rw [k3 9 (by omega), k29]) (by rw [k3 10 (by omega), k210]) k311 AccS.nil hN (by simp)
  obtain ⟨T5, e5, k5⟩ := ph39_run (A := A4) (K := K) (run := run) (cf := cf) (M := M) (g := g) (rd := rd) (D := D) j8
  refine ⟨T5, A4, sv4, ?_, k5, by simpa using a4⟩
  rw [codeA_seq, e1, seqA_normal, codeA_seq, e2, seqA_normal, codeA_seq, codeA_seq, e3, seqA_normal, codeA_block, codeA_loop, show iterA (codeA (callV AP K run) cf M out39) M g rd ⟨T3, D, A⟩ = some (.exit 1, ⟨T4, D, A4⟩) from by rw [← e4, ← he]]
  simp only [inBlk_exit, if_true, seqA_normal]
  exact e5
end
end Go.Ab.Wave
namespace Go.Ab.Wave
open Go Go.Ab
def farK (k cl : Int) : Int := if k = 1 then wr .i64 (cl.tdiv 4) else if k = 3 then 1 else 0
def riseLo (k p : Int) : Int := if k = 2 then p else wr .i64 (p.tdiv 2)
def riseHi (k p : Int) : Int := if k = 2 then wr .i64 (2 * p) else p
section
variable {sl : Value} {w h s k cell cl tlo thi p : Int} {K : Nat → Option Spec} {M : Nat} {rows : List (List Value)}
theorem run39 {hi hv : Int} {c d : Nat} (hK : K 39 = none) (hw : w ≠ 0) (hk : k = 1 ∨ k = 2 ∨ k = 3) (hsh : shA true .i64 1 cl = some (J p))
    (hhi : hi = mn2 (wr .i64 (w - 1)) (wr .i64 (cell.tmod w + farK k cl))) (hb : hi < 1000000) (hu0 : mx2 0 (wr .i64 (cell.tmod w - farK k cl)) + c = hi + 1 ∨ (c = 0 ∧ hi < mx2 0 (wr .i64 (cell.tmod w - farK k cl))))
    (hhv : hv = mn2 (wr .i64 (h - 1)) (wr .i64 (wr .i64 (cell.tdiv w) + farK k cl))) (hbv : hv < 1000000) (hv0 : mx2 0 (wr .i64 (wr .i64 (cell.tdiv w) - farK k cl)) + d = hv + 1 ∨ (d = 0 ∧ hv < mx2 0 (wr .i64 (wr .i64 (cell.tdiv w) - farK k cl))))
    (hM : c + 1 ≤ M) (hM' : d + 1 ≤ M) (hroom : d * c + c < 1000000) :
    ∃ sv' A', callA AP K M 1 rows.length 39 [gridV w h s sl, srcV k cell cl tlo thi] (roHp rows) = some (sv', A') ∧
      AccS (rows.length + 3) A' 5 (rowsV w tlo thi (riseLo k p) (riseHi k p) (mx2 0 (wr .i64 (cell.tmod w - farK k cl))) c (mx2 0 (wr .i64 (wr .i64 (cell.tdiv w) - farK k cl))) d) sv' := by
  unfold callA
  rw [callF_body hK AP39, exec_succ]
  generalize callF AP K (exec AP K M 0) = cf
  generalize exec AP K M 0 = run
  have hn : (roHp rows).n = rows.length := rfl
  obtain ⟨T0, e0, a2, a3⟩ := pa39_run (A := roHp rows) (sl := sl) (w := w) (h := h) (s := s) (k := k) (cell := cell) (cl := cl) (tlo := tlo) (thi := thi) (K := K) (run := run) (cf := cf) (M := M) (g := rows.length) (rd := none) (D := [])
  rw [hn] at a2 a3
  have hBn : (boxed (roHp rows) w h s sl k cell cl tlo thi).n = rows.length + 2 := rfl
  have hG0 : (boxed (roHp rows) w h s sl k cell cl tlo thi).get rows.length = some (.cells [J w, J h, J s, sl] false) := by
    rw [boxed, Hp.get_push, if_neg (by rw [Hp.n_push, hn]; omega), Hp.get_push, if_pos hn.symm]
  have hS0 : (boxed (roHp rows) w h s sl k cell cl tlo thi).get (rows.length + 1) = some (.cells [J k, J cell, J cl, J tlo, J thi] false) := by
    rw [boxed, Hp.get_push, if_pos (by rw [Hp.n_push, hn])]
  generalize boxed (roHp rows) w h s sl k cell cl tlo thi = B at e0 hBn hG0 hS0
  obtain ⟨T1, e1, b5, b6, b⟩ := pb39_run (p := p) (K := K) (run := run) (cf := cf) (M := M) (g := rows.length) (rd := none) (D := []) hS0 a3 hsh
  obtain ⟨T2, e2, c7, cc⟩ := pc39_run (A := B) (K := K) (run := run) (cf := cf) (M := M) (g := rows.length) (rd := none) (D := []) (by rw [hBn]; omega) b5
  have hG1 : (lay B (wr .i64 (p.tdiv 2)) p).get rows.length = some (.cells [J w, J h, J s, sl] false) := by rw [lay_get, if_neg (by omega)]; exact hG0
  have hS1 : (lay B (wr .i64 (p.tdiv 2)) p).get (rows.length + 1) = some (.cells [J k, J cell, J cl, J tlo, J thi] false) := by rw [lay_get, if_neg (by omega)]; exact hS0
  have hR1 : (lay B (wr .i64 (p.tdiv 2)) p).get (rows.length + 2) = some (.cells [J (wr .i64 (p.tdiv 2)), J p] false) := by rw [lay_get, if_pos hBn.symm]
  have hn1 : (lay B (wr .i64 (p.tdiv 2)) p).n = rows.length + 3 := by rw [lay_n, hBn]
  rw [hBn] at c7
  generalize lay B (wr .i64 (p.tdiv 2)) p = B1 at e2 hG1 hS1 hR1 hn1
  have t2 : tget T2 2 = .pointer (some ⟨rows.length, 0, none⟩) := by rw [cc 2 (by omega), b 2 (by omega), a2]
  have t3 : tget T2 3 = .pointer (some ⟨rows.length + 1, 0, none⟩) := by rw [cc 3 (by omega), b 3 (by omega), a3]
  have hd : ∃ T3 B2, codeA (callV AP K run) cf M pd39 rows.length none ⟨T2, [], B1⟩ = some (.normal, ⟨T3, [], B2⟩) ∧ B2.n = rows.length + 3 ∧ B2.get rows.length = some (.cells [J w, J h, J s, sl] false) ∧
      B2.get (rows.length + 1) = some (.cells [J k, J cell, J cl, J tlo, J thi] false) ∧ B2.get (rows.length + 2) = some (.cells [J (riseLo k p), J (riseHi k p)] false) ∧
      tget T3 2 = .pointer (some ⟨rows.length, 0, none⟩) ∧ tget T3 3 = .pointer (some ⟨rows.length + 1, 0, none⟩) ∧ tget T3 6 = J (farK k cl) ∧ tget T3 7 = .pointer (some ⟨rows.length + 2, 0, none⟩) := by
    rcases hk with rfl | rfl | rfl
    · obtain ⟨T3, e3, d6, d7, dd⟩ := pd39_one (K := K) (run := run) (cf := cf) (M := M) (g := rows.length) (rd := none) (D := []) hS1 t3
      exact ⟨T3, B1, e3, hn1, hG1, hS1, hR1, by rw [dd 2 (by omega), t2], by rw [dd 3 (by omega), t3], d6, by rw [d7, c7]⟩
    · obtain ⟨T3, e3, d6, d7, dd⟩ := pd39_two (K := K) (run := run) (cf := cf) (M := M) (g := rows.length) (rd := none) (D := []) hS1 hR1 (by omega) t3 (by rw [cc 5 (by omega), b5]) c7
      refine ⟨T3, _, e3, hn1, ?_, ?_, ?_, by rw [dd 2 (by omega), t2], by rw [dd 3 (by omega), t3], by rw [d6, cc 6 (by omega), b6]; rfl, by rw [d7, c7]⟩
      · rw [Hp.get_set hR1, if_neg (by omega)]; exact hG1
      · rw [Hp.get_set hR1, if_neg (by omega)]; exact hS1
      · rw [Hp.get_set hR1, if_pos rfl]; rfl
    · obtain ⟨T3, e3, d6, d7, dd⟩ := pd39_three (K := K) (run := run) (cf := cf) (M := M) (g := rows.length) (rd := none) (D := []) hS1 t3
      exact ⟨T3, B1, e3, hn1, hG1, hS1, hR1, by rw [dd 2 (by omega), t2], by rw [dd 3 (by omega), t3], d6, by rw [d7, c7]⟩
  obtain ⟨T3, B2, e3, hn2, hG2, hS2, hR2, u2, u3, u6, u7⟩ := hd
  obtain ⟨T4, A4, sv4, e4, f4, hac⟩ := tail39 (K := K) (run := run) (cf := cf) (M := M) (g := rows.length) (rd := none) (D := []) (N := rows.length + 3) hw (by omega) (by omega) (by omega) (by omega) (by omega) hhi hb hu0 hhv hbv hv0 hM hM' hroom hG2 hS2 hR2 u2 u3 u6 u7
  refine ⟨sv4, A4, ?_, hac⟩
  rw [codeA_seq, e0, seqA_normal, codeA_seq, e1, seqA_normal, codeA_seq, e2, seqA_normal, codeA_seq, e3, seqA_normal, e4]
  simp [finishA_ret, takeMarks, resA, resAll, resOne, f4]
end
end Go.Ab.Wave
namespace Go.Ab.Wave
open Go Go.Ab
def qa12 : ACode := (.ops [
oP 2 (.box (.t 0)),
oP 3 (.box (.t 1)),
oP 4 (.move (.k (.slice none 0 0))),
oP 5 (.move (oK 0))])
def qb12 : ACode := (.ops [
oD 14 2 4,
oA 15 40 [.t 14] false,
oM 6 15])
def qc12 : ACode := (.seq
 (.ops [
oM 16 6,
oC 17 .eql 16 0])
 (.cond (.t 17)
 (.ops [
oD 18 2 4,
oD 19 3 5,
oA 20 41 [.t 18, .t 19] false,
oM 6 20])
 .skip))
def qd12 : ACode := (.seq
 (.ops [
oM 21 6,
oC 22 .neq 21 0])
 (.cond (.t 22)
 (.seq
 (.ops [
oM 23 6,
oP 4 (.move (.k (.slice none 0 0))),
oM 5 23])
 .ret)
 .skip))
def qe12 : ACode := (.ops [
oF 24 3 2,
oL 25 24,
oP 26 (.bin .shl (oK 1) (.t 25)),
oM 7 26])
def qf12 : ACode := (.ops [
oM 27 7,
oM 28 7,
oP 29 (.bin .mul (oK 2) (.t 28)),
oP 30 (.build [.int .i64 0, .int .i64 0] [(0, 1, .t 27), (1, 1, .t 29)]),
oP 9 (.alloc [.int .i64 0, .int .i64 0]),
oP 8 (.move (oK 0)),
oT 9 30 2])
def qg12 : ACode := (.seq
 (.ops [
oF 31 3 0,
oL 32 31,
oC 33 .eql 32 1])
 (.cond (.t 33)
 (.ops [
oF 34 3 2,
oL 35 34,
oC 36 .quo 35 4,
oM 37 7,
oC 38 .quo 37 2,
oM 39 7,
oP 40 (.build [.int .i64 0, .int .i64 0] [(0, 1, .t 38), (1, 1, .t 39)]),
oM 8 36,
oT 9 40 2])
 .skip))
def qh12 : ACode := (.seq
 (.ops [
oF 41 3 0,
oL 42 41,
oC 43 .eql 42 3])
 (.cond (.t 43)
 (.ops [
oM 44 7,
oC 45 .quo 44 2,
oM 46 7,
oP 47 (.build [.int .i64 0, .int .i64 0] [(0, 1, .t 45), (1, 1, .t 46)]),
oP 8 (.move (oK 1)),
oT 9 47 2])
 .skip))
def qi12 : ACode := (.ops [
oP 10 (.move (.k (.slice none 0 0)))])
def qj12 : ACode := (.ops [
oP 11 (.move (oK 0))])
def qk12 : ACode := (.seq
 (.ops [
oM 92 10,
oM 4 92,
oP 5 (.move (oK 0))])
 .ret)
theorem AP12 : AP 12 = some (.fn 93 [.tmp 4, .tmp 5] (.seq qa12 (.seq qb12 (.seq qc12 (.seq qd12 (.seq qe12 (.seq qf12 (.seq qg12 (.seq qh12 (.seq qi12 (.seq (.seq qj12 (.block 0 (.loop body12))) qk12))))))))))) := rfl
def K12 : Nat → Option Spec := fun f => cond (Nat.beq f 40) (some S37) (cond (Nat.beq f 41) (some S38) none)
theorem K12_ok : SpecsOk E K12 := by
  intro h S hS
  unfold K12 at hS
  cases h1 : Nat.beq h 40 with
  | true =>
    rw [h1] at hS; cases hS
    have := Nat.eq_of_beq_eq_true h1; subst this
    exact ⟨isFn' 40 _ _ _ rfl, S40_ok⟩
  | false =>
    rw [h1] at hS
    cases h2 : Nat.beq h 41 with
    | true =>
      rw [h2] at hS; cases hS
      have := Nat.eq_of_beq_eq_true h2; subst this
      exact ⟨isFn' 41 _ _ _ rfl, S38_ok41⟩
    | false => rw [h2] at hS; cases hS
theorem groundOf_mono {A A' : Hp} {sl : Value} {l : List (Int × Int)} (h : groundOf A sl = some l) (hA : ∀ x, x < A.n → A'.get x = A.get x) : groundOf A' sl = some l := by
  unfold groundOf at h ⊢
  split at h
  · exact h
  · rename_i x n cap
    cases hg : A.get x with
    | none => rw [hg] at h; cases h
    | some b => rw [hA x (Hp.lt_of_get hg)]; exact h
  · cases h
theorem S37_eq {A : Hp} {w h s : Int} {sl : Value} {l : List (Int × Int)} {g : Nat} (hl : groundOf A sl = some l) : S37 g [.agg ⟨[.int .i64 w, .int .i64 h, .int .i64 s, sl]⟩] A = some (.int .i64 (checkG w h s l), A) := by
  simp [S37, hl, J]
theorem S38_eq {A : Hp} {w h s k c cl lo hi : Int} {sl : Value} {l : List (Int × Int)} {g : Nat} (hl : groundOf A sl = some l) :
    S38 g [.agg ⟨[.int .i64 w, .int .i64 h, .int .i64 s, sl]⟩, .agg ⟨[.int .i64 k, .int .i64 c, .int .i64 cl, .int .i64 lo, .int .i64 hi]⟩] A = some (.int .i64 (srcErr l.length k c cl lo hi), A) := by
  simp [S38, hl, J]
section
variable {A : Hp} {G S : Nat} {sl : Value} {w h s k cell cl tlo thi er : Int} {l : List (Int × Int)} {run : ACode → RunFn} {cf : Nat → Nat → List Value → Hp → Option (Value × Hp)} {K : Nat → Option Spec} {M g : Nat} {rd : Option Nat} {D : List Nat}
theorem qa12_run : ∃ T', codeA (callV AP K run) cf M qa12 g rd ⟨[gridV w h s sl, srcV k cell cl tlo thi], D, A⟩ = some (.normal, ⟨T', D, boxed A w h s sl k cell cl tlo thi⟩) ∧
    tget T' 2 = .pointer (some ⟨A.n, 0, none⟩) ∧ tget T' 3 = .pointer (some ⟨A.n + 1, 0, none⟩) := by
  simp [qa12, codeA_skip, codeA_seq, codeA_ops, codeA_cond, codeA_block, codeA_ret, codeA_exit, opsA_cons, operA_plain, thenPut_some, opA, ev_t, ev_k, putA_some, putA_none, seqA_normal, seqA_exit, seqA_ret, inBlk_normal, inBlk_ret, condA_true, condA_false, J, binA, intA, kEq, pureV, fieldAddrA, allocA, storeV, Value.cells, fillA, setRange, callV_func, gridV, srcV, boxed]
theorem load_all {x n : Nat} {cs : List Value} {ro : Bool} (h : A.get x = some (.cells cs ro)) (hn : cs.length = n) : loadA A (.pointer (some ⟨x, 0, none⟩)) (some n) = some (.agg ⟨cs⟩) := by
  subst hn; simp [loadA, h, partA]
theorem qb12_run {T : List Value} (hG : A.get G = some (.cells [J w, J h, J s, sl] false)) (hl : groundOf A sl = some l) (h2 : tget T 2 = .pointer (some ⟨G, 0, none⟩)) :
    ∃ T', codeA (callV AP K12 run) cf M qb12 g rd ⟨T, D, A⟩ = some (.normal, ⟨T', D, A⟩) ∧ tget T' 6 = J (checkG w h s l) ∧ (∀ i, i < 6 → tget T' i = tget T i) := by
  have hload := load_all (n := 4) hG rfl
  simp only [J] at hG hload
  simp [qb12, codeA_skip, codeA_seq, codeA_ops, codeA_cond, codeA_block, codeA_ret, codeA_exit, opsA_cons, operA_plain, thenPut_some, opA, ev_t, ev_k, putA_some, putA_none, seqA_normal, seqA_exit, seqA_ret, inBlk_normal, inBlk_ret, condA_true, condA_false, J, binA, intA, kEq, pureV, fieldAddrA, allocA, storeV, Value.cells, fillA, setRange, callV_func, h2, hload, callF_spec (show K12 40 = some S37 from rfl), S37_eq hl]
  intro i hi
  repeat (rw [if_neg (by omega)])
theorem qc12_run {T : List Value} (hG : A.get G = some (.cells [J w, J h, J s, sl] false)) (hS : A.get S = some (.cells [J k, J cell, J cl, J tlo, J thi] false)) (hl : groundOf A sl = some l) (h2 : tget T 2 = .pointer (some ⟨G, 0, none⟩)) (h3 : tget T 3 = .pointer (some ⟨S, 0, none⟩)) (h6 : tget T 6 = J er) :
    ∃ T', codeA (callV AP K12 run) cf M qc12 g rd ⟨T, D, A⟩ = some (.normal, ⟨T', D, A⟩) ∧ tget T' 6 = J (if er = 0 then srcErr l.length k cell cl tlo thi else er) ∧ (∀ i, i < 6 → tget T' i = tget T i) := by
  have hload := load_all (n := 4) hG rfl
  have hload' := load_all (n := 5) hS rfl
  simp only [J] at hG hS h6 hload hload'
  by_cases he : er = 0
  · simp [qc12, codeA_skip, codeA_seq, codeA_ops, codeA_cond, codeA_block, codeA_ret, codeA_exit, opsA_cons, operA_plain, thenPut_some, opA, ev_t, ev_k, putA_some, putA_none, seqA_normal, seqA_exit, seqA_ret, inBlk_normal, inBlk_ret, condA_true, condA_false, J, binA, intA, kEq, pureV, fieldAddrA, allocA, storeV, Value.cells, fillA, setRange, callV_func, h2, h3, h6, hload, hload', callF_spec (show K12 41 = some S38 from rfl), S38_eq hl, he]
    intro i hi
    repeat (rw [if_neg (by omega)])
  · simp [qc12, codeA_skip, codeA_seq, codeA_ops, codeA_cond, codeA_block, codeA_ret, codeA_exit, opsA_cons, operA_plain, thenPut_some, opA, ev_t, ev_k, putA_some, putA_none, seqA_normal, seqA_exit, seqA_ret, inBlk_normal, inBlk_ret, condA_true, condA_false, J, binA, intA, kEq, pureV, fieldAddrA, allocA, storeV, Value.cells, fillA, setRange, callV_func, h6, he, show (er == 0) = false from beq_eq_false_iff_ne.2 he]
    intro i hi
    repeat (rw [if_neg (by omega)])
end
end Go.Ab.Wave
namespace Go.Ab.Wave
open Go Go.Ab
section
variable {A : Hp} {G S R : Nat} {sl : Value} {w h s k cell cl tlo thi er p a b : Int} {run : ACode → RunFn} {cf : Nat → Nat → List Value → Hp → Option (Value × Hp)} {K : Nat → Option Spec} {M g : Nat} {rd : Option Nat} {D : List Nat}
theorem qd12_run {T : List Value} (h6 : tget T 6 = J er) :
    ∃ T', codeA (callV AP K run) cf M qd12 g rd ⟨T, D, A⟩ = some (if er = 0 then .normal else .ret, ⟨T', D, A⟩) ∧ (er ≠ 0 → tget T' 4 = .slice none 0 0 ∧ tget T' 5 = J er) ∧ (er = 0 → ∀ i, i < 16 → tget T' i = tget T i) := by
  simp only [J] at h6
  by_cases he : er = 0
  · simp [qd12, codeA_skip, codeA_seq, codeA_ops, codeA_cond, codeA_block, codeA_ret, codeA_exit, opsA_cons, operA_plain, thenPut_some, opA, ev_t, ev_k, putA_some, putA_none, seqA_normal, seqA_exit, seqA_ret, inBlk_normal, inBlk_ret, condA_true, condA_false, J, binA, intA, kEq, pureV, fieldAddrA, allocA, storeV, Value.cells, fillA, setRange, callV_func, h6, he]
    intro i hi
    repeat (rw [if_neg (by omega)])
  · simp [qd12, codeA_skip, codeA_seq, codeA_ops, codeA_cond, codeA_block, codeA_ret, codeA_exit, opsA_cons, operA_plain, thenPut_some, opA, ev_t, ev_k, putA_some, putA_none, seqA_normal, seqA_exit, seqA_ret, inBlk_normal, inBlk_ret, condA_true, condA_false, J, binA, intA, kEq, pureV, fieldAddrA, allocA, storeV, Value.cells, fillA, setRange, callV_func, h6, he, show (er != 0) = true from bne_iff_ne.2 he]
theorem qe12_run {T : List Value} (hS : A.get S = some (.cells [J k, J cell, J cl, J tlo, J thi] false)) (h3 : tget T 3 = .pointer (some ⟨S, 0, none⟩)) (hsh : shA true .i64 1 cl = some (J p)) :
    ∃ T', codeA (callV AP K run) cf M qe12 g rd ⟨T, D, A⟩ = some (.normal, ⟨T', D, A⟩) ∧ tget T' 7 = J p ∧ (∀ i, i < 7 → tget T' i = tget T i) := by
  simp only [J] at hS hsh
  simp [qe12, codeA_skip, codeA_seq, codeA_ops, codeA_cond, codeA_block, codeA_ret, codeA_exit, opsA_cons, operA_plain, thenPut_some, opA, ev_t, ev_k, putA_some, putA_none, seqA_normal, seqA_exit, seqA_ret, inBlk_normal, inBlk_ret, condA_true, condA_false, J, binA, intA, kEq, pureV, fieldAddrA, allocA, storeV, Value.cells, fillA, setRange, callV_func, h3, load_cell hS, hsh]
  intro i hi
  repeat (rw [if_neg (by omega)])
theorem qf12_run {T : List Value} (hg : g ≤ A.n) (h7 : tget T 7 = J p) :
    ∃ T', codeA (callV AP K run) cf M qf12 g rd ⟨T, D, A⟩ = some (.normal, ⟨T', D, lay A p (wr .i64 (2 * p))⟩) ∧ tget T' 8 = J 0 ∧ tget T' 9 = .pointer (some ⟨A.n, 0, none⟩) ∧ (∀ i, i < 8 → tget T' i = tget T i) := by
  have hst := lay_store (A := A) (a := p) (b := wr .i64 (2 * p)) hg
  simp only [J] at h7
  simp [qf12, codeA_skip, codeA_seq, codeA_ops, codeA_cond, codeA_block, codeA_ret, codeA_exit, opsA_cons, operA_plain, thenPut_some, opA, ev_t, ev_k, putA_some, putA_none, seqA_normal, seqA_exit, seqA_ret, inBlk_normal, inBlk_ret, condA_true, condA_false, J, binA, intA, kEq, pureV, fieldAddrA, allocA, storeV, Value.cells, fillA, setRange, callV_func, h7, hst]
  intro i hi
  repeat (rw [if_neg (by omega)])
theorem qg12_yes {T : List Value} (hS : A.get S = some (.cells [J 1, J cell, J cl, J tlo, J thi] false)) (hR : A.get R = some (.cells [J a, J b] false)) (hg : g ≤ R) (h3 : tget T 3 = .pointer (some ⟨S, 0, none⟩)) (h7 : tget T 7 = J p) (h9 : tget T 9 = .pointer (some ⟨R, 0, none⟩)) :
    ∃ T', codeA (callV AP K run) cf M qg12 g rd ⟨T, D, A⟩ = some (.normal, ⟨T', D, A.set R (some (.cells [J (wr .i64 (p.tdiv 2)), J p] false))⟩) ∧ tget T' 8 = J (wr .i64 (cl.tdiv 4)) ∧ tget T' 9 = tget T 9 ∧ (∀ i, i < 8 → tget T' i = tget T i) := by
  have hst := store_pair (c := wr .i64 (p.tdiv 2)) (d := p) hR hg
  simp only [J] at hS h7 hst
  simp [qg12, codeA_skip, codeA_seq, codeA_ops, codeA_cond, codeA_block, codeA_ret, codeA_exit, opsA_cons, operA_plain, thenPut_some, opA, ev_t, ev_k, putA_some, putA_none, seqA_normal, seqA_exit, seqA_ret, inBlk_normal, inBlk_ret, condA_true, condA_false, J, binA, intA, kEq, pureV, fieldAddrA, allocA, storeV, Value.cells, fillA, setRange, callV_func, h3, h7, h9, load_cell hS, hst]
  intro i hi
  repeat (rw [if_neg (by omega)])
theorem qg12_no {T : List Value} (hS : A.get S = some (.cells [J k, J cell, J cl, J tlo, J thi] false)) (hk : k ≠ 1) (h3 : tget T 3 = .pointer (some ⟨S, 0, none⟩)) :
    ∃ T', codeA (callV AP K run) cf M qg12 g rd ⟨T, D, A⟩ = some (.normal, ⟨T', D, A⟩) ∧ (∀ i, i < 16 → tget T' i = tget T i) := by
  simp only [J] at hS
  simp [qg12, codeA_skip, codeA_seq, codeA_ops, codeA_cond, codeA_block, codeA_ret, codeA_exit, opsA_cons, operA_plain, thenPut_some, opA, ev_t, ev_k, putA_some, putA_none, seqA_normal, seqA_exit, seqA_ret, inBlk_normal, inBlk_ret, condA_true, condA_false, J, binA, intA, kEq, pureV, fieldAddrA, allocA, storeV, Value.cells, fillA, setRange, callV_func, h3, load_cell hS, hk, show (k == 1) = false from beq_eq_false_iff_ne.2 hk]
  intro i hi
  repeat (rw [if_neg (by omega)])
theorem qh12_yes {T : List Value} (hS : A.get S = some (.cells [J 3, J cell, J cl, J tlo, J thi] false)) (hR : A.get R = some (.cells [J a, J b] false)) (hg : g ≤ R) (h3 : tget T 3 = .pointer (some ⟨S, 0, none⟩)) (h7 : tget T 7 = J p) (h9 : tget T 9 = .pointer (some ⟨R, 0, none⟩)) :
    ∃ T', codeA (callV AP K run) cf M qh12 g rd ⟨T, D, A⟩ = some (.normal, ⟨T', D, A.set R (some (.cells [J (wr .i64 (p.tdiv 2)), J p] false))⟩) ∧ tget T' 8 = J 1 ∧ tget T' 9 = tget T 9 ∧ (∀ i, i < 8 → tget T' i = tget T i) := by
  have hst := store_pair (c := wr .i64 (p.tdiv 2)) (d := p) hR hg
  simp only [J] at hS h7 hst
  simp [qh12, codeA_skip, codeA_seq, codeA_ops, codeA_cond, codeA_block, codeA_ret, codeA_exit, opsA_cons, operA_plain, thenPut_some, opA, ev_t, ev_k, putA_some, putA_none, seqA_normal, seqA_exit, seqA_ret, inBlk_normal, inBlk_ret, condA_true, condA_false, J, binA, intA, kEq, pureV, fieldAddrA, allocA, storeV, Value.cells, fillA, setRange, callV_func, h3, h7, h9, load_cell hS, hst]
  intro i hi
  repeat (rw [if_neg (by omega)])
theorem qh12_no {T : List Value} (hS : A.get S = some (.cells [J k, J cell, J cl, J tlo, J thi] false)) (hk : k ≠ 3) (h3 : tget T 3 = .pointer (some ⟨S, 0, none⟩)) :
    ∃ T', codeA (callV AP K run) cf M qh12 g rd ⟨T, D, A⟩ = some (.normal, ⟨T', D, A⟩) ∧ (∀ i, i < 16 → tget T' i = tget T i) := by
  simp only [J] at hS
  simp [qh12, codeA_skip, codeA_seq, codeA_ops, codeA_cond, codeA_block, codeA_ret, codeA_exit, opsA_cons, operA_plain, thenPut_some, opA, ev_t, ev_k, putA_some, putA_none, seqA_normal, seqA_exit, seqA_ret, inBlk_normal, inBlk_ret, condA_true, condA_false, J, binA, intA, kEq, pureV, fieldAddrA, allocA, storeV, Value.cells, fillA, setRange, callV_func, h3, load_cell hS, hk, show (k == 3) = false from beq_eq_false_iff_ne.2 hk]
  intro i hi
  repeat (rw [if_neg (by omega)])
theorem qi12_run {T : List Value} : ∃ T', codeA (callV AP K run) cf M qi12 g rd ⟨T, D, A⟩ = some (.normal, ⟨T', D, A⟩) ∧ tget T' 10 = .slice none 0 0 ∧ (∀ i, i < 10 → tget T' i = tget T i) := by
  simp [qi12, codeA_skip, codeA_seq, codeA_ops, codeA_cond, codeA_block, codeA_ret, codeA_exit, opsA_cons, operA_plain, thenPut_some, opA, ev_t, ev_k, putA_some, putA_none, seqA_normal, seqA_exit, seqA_ret, inBlk_normal, inBlk_ret, condA_true, condA_false, J, binA, intA, kEq, pureV, fieldAddrA, allocA, storeV, Value.cells, fillA, setRange, callV_func]
  intro i hi h8
  omega
theorem qj12_run {T : List Value} : ∃ T', codeA (callV AP K run) cf M qj12 g rd ⟨T, D, A⟩ = some (.normal, ⟨T', D, A⟩) ∧ tget T' 11 = J ((0 : Nat) : Int) ∧ (∀ i, i < 11 → tget T' i = tget T i) := by
  simp [qj12, codeA_skip, codeA_seq, codeA_ops, codeA_cond, codeA_block, codeA_ret, codeA_exit, opsA_cons, operA_plain, thenPut_some, opA, ev_t, ev_k, putA_some, putA_none, seqA_normal, seqA_exit, seqA_ret, inBlk_normal, inBlk_ret, condA_true, condA_false, J, binA, intA, kEq, pureV, fieldAddrA, allocA, storeV, Value.cells, fillA, setRange, callV_func]
  intro i hi h8
  omega
theorem qk12_run {T : List Value} {sv : Value} (h10 : tget T 10 = sv) : ∃ T', codeA (callV AP K run) cf M qk12 g rd ⟨T, D, A⟩ = some (.ret, ⟨T', D, A⟩) ∧ tget T' 4 = sv ∧ tget T' 5 = J 0 := by
  simp [qk12, codeA_skip, codeA_seq, codeA_ops, codeA_cond, codeA_block, codeA_ret, codeA_exit, opsA_cons, operA_plain, thenPut_some, opA, ev_t, ev_k, putA_some, putA_none, seqA_normal, seqA_exit, seqA_ret, inBlk_normal, inBlk_ret, condA_true, condA_false, J, binA, intA, kEq, pureV, fieldAddrA, allocA, storeV, Value.cells, fillA, setRange, callV_func, h10]
end
end Go.Ab.Wave
