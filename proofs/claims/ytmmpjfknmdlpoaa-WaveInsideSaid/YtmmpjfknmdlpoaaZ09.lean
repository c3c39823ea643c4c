/- Values and heaps, evaluated by simp on letters. -/
import Derived.Test.YtmmpjfknmdlpoaaZ08
import Derived.Test.YtmmpjfknmdlpoaaZ05
set_option linter.unusedSimpArgs false
set_option linter.unusedVariables false
set_option linter.unusedSectionVars false
namespace Go.Ab.Wave
open Go Go.Ab
def startErr (w h s : Int) (l : List (Int × Int)) (k c cl lo hi : Int) : Int := if checkG w h s l = 0 then srcErr l.length k c cl lo hi else checkG w h s l
section
variable {A : Hp} {G S R N : Nat} {sl : Value} {w h s k cell cl tlo thi p far rlo rhi : Int} {l : List (Int × Int)} {run : ACode → RunFn} {cf : Nat → Nat → List Value → Hp → Option (Value × Hp)} {K : Nat → Option Spec} {M g : Nat} {rd : Option Nat} {D : List Nat} {rows : List (List Value)}
theorem tail12 {T : List Value} {m : Nat} (hw : w ≠ 0) (hn : lenV sl = some (J m)) (hm : m < 1000000) (hGN : G < N) (hSN : S < N) (hRN : R < N) (hg : g ≤ N) (hN : N ≤ A.n) (hM : m + 1 ≤ M)
    (hG : A.get G = some (.cells [J w, J h, J s, sl] false)) (hS : A.get S = some (.cells [J k, J cell, J cl, J tlo, J thi] false)) (hR : A.get R = some (.cells [J rlo, J rhi] false))
    (h2 : tget T 2 = .pointer (some ⟨G, 0, none⟩)) (h3 : tget T 3 = .pointer (some ⟨S, 0, none⟩)) (h8 : tget T 8 = J far) (h9 : tget T 9 = .pointer (some ⟨R, 0, none⟩)) :
    ∃ T' A' sv', codeA (callV AP K run) cf M (.seq qi12 (.seq (.seq qj12 (.block 0 (.loop body12))) qk12)) g rd ⟨T, D, A⟩ = some (.ret, ⟨T', D, A'⟩) ∧ tget T' 4 = sv' ∧ tget T' 5 = J 0 ∧ AccS N A' 5 (nearRows w cell far tlo thi rlo rhi 0 m) sv' := by
  obtain ⟨T1, e1, k10, k1⟩ := qi12_run (A := A) (T := T) (K := K) (run := run) (cf := cf) (M := M) (g := g) (rd := rd) (D := D)
  obtain ⟨T2, e2, k11, k2⟩ := qj12_run (A := A) (T := T1) (K := K) (run := run) (cf := cf) (M := M) (g := g) (rd := rd) (D := D)
  have kk : ∀ i, i < 10 → tget T2 i = tget T i := fun i hi => by rw [k2 i (by omega), k1 i hi]
  obtain ⟨e, he⟩ : ∃ e, M = m + 1 + e := ⟨M - (m + 1), by omega⟩
  obtain ⟨T3, A3, sv3, e3, a3, j10, _, _⟩ := loop12 (K := K) (run := run) (cf := cf) (M := M) (g := g) (rd := rd) (D := D) hw hn hm hGN hSN hRN hg m 0 e T2 A [] 0 _ (by omega) hG hS hR
    (by rw [kk 2 (by omega), h2]) (by rw [kk 3 (by omega), h3]) (by rw [kk 8 (by omega), h8]) (by rw [kk 9 (by omega), h9]) (by rw [k2 10 (by omega), k10]) k11 AccS.nil hN (by simp) (Nat.le_refl _)
  obtain ⟨T4, e4, j4, j5⟩ := qk12_run (A := A3) (K := K) (run := run) (cf := cf) (M := M) (g := g) (rd := rd) (D := D) j10
  refine ⟨T4, A3, sv3, ?_, j4, j5, by simpa using a3⟩
  rw [codeA_seq, e1, seqA_normal, codeA_seq, codeA_seq, e2, seqA_normal, codeA_block, codeA_loop, show iterA (codeA (callV AP K run) cf M body12) M g rd ⟨T2, D, A⟩ = some (.exit 0, ⟨T3, D, A3⟩) from by rw [← e3, ← he]]
  simp only [inBlk_exit, if_true, seqA_normal]
  exact e4
theorem boxed_old {x : Nat} (hx : x < A.n) : (boxed A w h s sl k cell cl tlo thi).get x = A.get x := by
  rw [boxed, Hp.get_push, if_neg (by rw [Hp.n_push]; omega), Hp.get_push, if_neg (by omega)]
theorem run12 (hgr : groundOf (roHp rows) sl = some l) (hm : l.length < 1000000) (hM : l.length + 1 ≤ M) (hok : startErr w h s l k cell cl tlo thi = 0 → w ≠ 0 ∧ (k = 1 ∨ k = 2 ∨ k = 3) ∧ shA true .i64 1 cl = some (J p)) :
    ∃ sv' A', callA AP K12 M 1 rows.length 12 [gridV w h s sl, srcV k cell cl tlo thi] (roHp rows) = some (.tuple ⟨[sv', J (startErr w h s l k cell cl tlo thi)]⟩, A') ∧
      (startErr w h s l k cell cl tlo thi ≠ 0 → sv' = .slice none 0 0) ∧ (startErr w h s l k cell cl tlo thi = 0 → AccS (rows.length + 3) A' 5 (nearRows w cell (farK k cl) tlo thi (riseLo k p) (riseHi k p) 0 l.length) sv') := by
  unfold callA
  rw [callF_body rfl AP12, exec_succ]
  generalize callF AP K12 (exec AP K12 M 0) = cf
  generalize exec AP K12 M 0 = run
  have hn : (roHp rows).n = rows.length := rfl
  obtain ⟨T0, e0, a2, a3⟩ := qa12_run (A := roHp rows) (sl := sl) (w := w) (h := h) (s := s) (k := k) (cell := cell) (cl := cl) (tlo := tlo) (thi := thi) (K := K12) (run := run) (cf := cf) (M := M) (g := rows.length) (rd := none) (D := [])
  rw [hn] at a2 a3
  have hBn : (boxed (roHp rows) w h s sl k cell cl tlo thi).n = rows.length + 2 := rfl
  have hG0 : (boxed (roHp rows) w h s sl k cell cl tlo thi).get rows.length = some (.cells [J w, J h, J s, sl] false) := by
    rw [boxed, Hp.get_push, if_neg (by rw [Hp.n_push, hn]; omega), Hp.get_push, if_pos hn.symm]
  have hS0 : (boxed (roHp rows) w h s sl k cell cl tlo thi).get (rows.length + 1) = some (.cells [J k, J cell, J cl, J tlo, J thi] false) := by
    rw [boxed, Hp.get_push, if_pos (by rw [Hp.n_push, hn])]
  have hgB : groundOf (boxed (roHp rows) w h s sl k cell cl tlo thi) sl = some l := groundOf_mono hgr fun x hx => boxed_old hx
  have hlen : lenV sl = some (J l.length) := by
    rcases (groundOf_cases hgr).2 with ⟨rfl, rfl⟩ | ⟨x, cap, ro, rfl, _⟩
    · rfl
    · rfl
  generalize boxed (roHp rows) w h s sl k cell cl tlo thi = B at e0 hBn hG0 hS0 hgB
  obtain ⟨T1, e1, b6, b⟩ := qb12_run (run := run) (cf := cf) (M := M) (g := rows.length) (rd := none) (D := []) hG0 hgB a2
  obtain ⟨T2, e2, c6, c⟩ := qc12_run (run := run) (cf := cf) (M := M) (g := rows.length) (rd := none) (D := []) hG0 hS0 hgB (by rw [b 2 (by omega), a2]) (by rw [b 3 (by omega), a3]) b6
  change tget T2 6 = J (startErr w h s l k cell cl tlo thi) at c6
  obtain ⟨T3, e3, d45, d⟩ := qd12_run (A := B) (K := K12) (run := run) (cf := cf) (M := M) (g := rows.length) (rd := none) (D := []) c6
  by_cases he : startErr w h s l k cell cl tlo thi = 0
  · rw [if_pos he] at e3
    obtain ⟨hw, hk, hsh⟩ := hok he
    have t2 : tget T3 2 = .pointer (some ⟨rows.length, 0, none⟩) := by rw [d he 2 (by omega), c 2 (by omega), b 2 (by omega), a2]
    have t3 : tget T3 3 = .pointer (some ⟨rows.length + 1, 0, none⟩) := by rw [d he 3 (by omega), c 3 (by omega), b 3 (by omega), a3]
    obtain ⟨T4, e4, f7, f⟩ := qe12_run (K := K12) (run := run) (cf := cf) (M := M) (g := rows.length) (rd := none) (D := []) hS0 t3 hsh
    obtain ⟨T5, e5, g8, g9, gg⟩ := qf12_run (A := B) (K := K12) (run := run) (cf := cf) (M := M) (g := rows.length) (rd := none) (D := []) (by rw [hBn]; omega) f7
    have hG1 : (lay B p (wr .i64 (2 * p))).get rows.length = some (.cells [J w, J h, J s, sl] false) := by rw [lay_get, if_neg (by omega)]; exact hG0
    have hS1 : (lay B p (wr .i64 (2 * p))).get (rows.length + 1) = some (.cells [J k, J cell, J cl, J tlo, J thi] false) := by rw [lay_get, if_neg (by omega)]; exact hS0
    have hR1 : (lay B p (wr .i64 (2 * p))).get (rows.length + 2) = some (.cells [J p, J (wr .i64 (2 * p))] false) := by rw [lay_get, if_pos hBn.symm]
    have hn1 : (lay B p (wr .i64 (2 * p))).n = rows.length + 3 := by rw [lay_n, hBn]
    rw [hBn] at g9
    generalize lay B p (wr .i64 (2 * p)) = B1 at e5 hG1 hS1 hR1 hn1
    have u2 : tget T5 2 = .pointer (some ⟨rows.length, 0, none⟩) := by rw [gg 2 (by omega), f 2 (by omega), t2]
    have u3 : tget T5 3 = .pointer (some ⟨rows.length + 1, 0, none⟩) := by rw [gg 3 (by omega), f 3 (by omega), t3]
    have u7 : tget T5 7 = J p := by rw [gg 7 (by omega), f7]
    have hd : ∃ T6 T7 B2 B3, codeA (callV AP K12 run) cf M qg12 rows.length none ⟨T5, [], B1⟩ = some (.normal, ⟨T6, [], B2⟩) ∧ codeA (callV AP K12 run) cf M qh12 rows.length none ⟨T6, [], B2⟩ = some (.normal, ⟨T7, [], B3⟩) ∧
        B3.n = rows.length + 3 ∧ B3.get rows.length = some (.cells [J w, J h, J s, sl] false) ∧
        B3.get (rows.length + 1) = some (.cells [J k, J cell, J cl, J tlo, J thi] false) ∧ B3.get (rows.length + 2) = some (.cells [J (riseLo k p), J (riseHi k p)] false) ∧
        tget T7 2 = .pointer (some ⟨rows.length, 0, none⟩) ∧ tget T7 3 = .pointer (some ⟨rows.length + 1, 0, none⟩) ∧ tget T7 8 = J (farK k cl) ∧ tget T7 9 = .pointer (some ⟨rows.length + 2, 0, none⟩) := by
      rcases hk with rfl | rfl | rfl
      · obtain ⟨T6, x1, y8, y9, y⟩ := qg12_yes (K := K12) (run := run) (cf := cf) (M := M) (g := rows.length) (rd := none) (D := []) hS1 hR1 (by omega) u3 u7 g9
        have hS2 : (B1.set (rows.length + 2) (some (.cells [J (wr .i64 (p.tdiv 2)), J p] false))).get (rows.length + 1) = some (.cells [J 1, J cell, J cl, J tlo, J thi] false) := by rw [Hp.get_set hR1, if_neg (by omega)]; exact hS1
        obtain ⟨T7, x2, z⟩ := qh12_no (K := K12) (run := run) (cf := cf) (M := M) (g := rows.length) (rd := none) (D := []) hS2 (by decide) (T := T6) (by rw [y 3 (by omega), u3])
        refine ⟨T6, T7, _, _, x1, x2, hn1, ?_, hS2, ?_, by rw [z 2 (by omega), y 2 (by omega), u2], by rw [z 3 (by omega), y 3 (by omega), u3], by rw [z 8 (by omega), y8]; rfl, by rw [z 9 (by omega), y9, g9]⟩
        · rw [Hp.get_set hR1, if_neg (by omega)]; exact hG1
        · rw [Hp.get_set hR1, if_pos rfl]; rfl
      · obtain ⟨T6, x1, y⟩ := qg12_no (K := K12) (run := run) (cf := cf) (M := M) (g := rows.length) (rd := none) (D := []) hS1 (by decide) u3
        obtain ⟨T7, x2, z⟩ := qh12_no (K := K12) (run := run) (cf := cf) (M := M) (g := rows.length) (rd := none) (D := []) hS1 (by decide) (T := T6) (by rw [y 3 (by omega), u3])
        exact ⟨T6, T7, _, _, x1, x2, hn1, hG1, hS1, hR1, by rw [z 2 (by omega), y 2 (by omega), u2], by rw [z 3 (by omega), y 3 (by omega), u3], by rw [z 8 (by omega), y 8 (by omega), g8]; rfl, by rw [z 9 (by omega), y 9 (by omega), g9]⟩
      · obtain ⟨T6, x1, y⟩ := qg12_no (K := K12) (run := run) (cf := cf) (M := M) (g := rows.length) (rd := none) (D := []) hS1 (by decide) u3
        obtain ⟨T7, x2, y8, y9, z⟩ := qh12_yes (K := K12) (run := run) (cf := cf) (M := M) (g := rows.length) (rd := none) (D := []) hS1 hR1 (by omega) (T := T6) (by rw [y 3 (by omega), u3]) (by rw [y 7 (by omega), u7]) (by rw [y 9 (by omega), g9])
        refine ⟨T6, T7, _, _, x1, x2, hn1, ?_, ?_, ?_, by rw [z 2 (by omega), y 2 (by omega), u2], by rw [z 3 (by omega), y 3 (by omega), u3], by rw [y8]; rfl, by rw [y9, y 9 (by omega), g9]⟩
        · rw [Hp.get_set hR1, if_neg (by omega)]; exact hG1
        · rw [Hp.get_set hR1, if_neg (by omega)]; exact hS1
        · rw [Hp.get_set hR1, if_pos rfl]; rfl
    obtain ⟨T6, T7, B2, B3, x1, x2, hn3, hG3, hS3, hR3, v2, v3, v8, v9⟩ := hd
    obtain ⟨T8, A8, sv8, e8, j4, j5, hac⟩ := tail12 (K := K12) (run := run) (cf := cf) (M := M) (g := rows.length) (rd := none) (D := []) (N := rows.length + 3) hw hlen hm (by omega) (by omega) (by omega) (by omega) (by omega) hM hG3 hS3 hR3 v2 v3 v8 v9
    refine ⟨sv8, A8, ?_, fun h => absurd he h, fun _ => hac⟩
    rw [codeA_seq, e0, seqA_normal, codeA_seq, e1, seqA_normal, codeA_seq, e2, seqA_normal, codeA_seq, e3, seqA_normal, codeA_seq, e4, seqA_normal, codeA_seq, e5, seqA_normal, codeA_seq, x1, seqA_normal, codeA_seq, x2, seqA_normal, e8]
    simp [finishA_ret, takeMarks, resA, resAll, resOne, j4, j5, he]
  · rw [if_neg he] at e3
    obtain ⟨j4, j5⟩ := d45 he
    refine ⟨.slice none 0 0, B, ?_, fun _ => rfl, fun h => absurd h he⟩
    rw [codeA_seq, e0, seqA_normal, codeA_seq, e1, seqA_normal, codeA_seq, e2, seqA_normal, codeA_seq, e3, seqA_ret]
    simp [finishA_ret, takeMarks, resA, resAll, resOne, j4, j5]
end
end Go.Ab.Wave
namespace Go.Ab.Wave
open Go Go.Ab
section
variable {W X Y far : Nat} {tlo thi rlo rhi : Int}
theorem mx4_le {a b c d f : Int} : mx4 a b c d ≤ f ↔ a ≤ f ∧ b ≤ f ∧ c ≤ f ∧ d ≤ f := by
  unfold mx4
  split <;> split <;> split <;> omega
theorem tmod_cell {u v w : Nat} (hu : u < w) : (((v * w + u : Nat) : Int)).tmod (w : Int) = u := by
  rw [← Int.ofNat_tmod]
  congr 1
  rw [Nat.add_comm, Nat.add_mul_mod_self_right, Nat.mod_eq_of_lt hu]
theorem tdiv_cell {u v w : Nat} (hu : u < w) : (((v * w + u : Nat) : Int)).tdiv (w : Int) = v := by
  rw [← Int.ofNat_tdiv]
  congr 1
  rw [Nat.add_comm, Nat.add_mul_div_right _ _ (by omega), Nat.div_eq_of_lt hu, Nat.zero_add]
theorem away_le {u v : Nat} (hu : u < W) (hX : X < W) (hv : v < 100000) (hY : Y < 100000) (hW : W < 100000) :
    awayV W (Y * W + X : Nat) ((v * W + u : Nat) : Int) ≤ (far : Int) ↔ (u ≤ X + far ∧ X ≤ u + far ∧ v ≤ Y + far ∧ Y ≤ v + far) := by
  unfold awayV
  rw [tmod_cell hu, tmod_cell hX, tdiv_cell hu, tdiv_cell hX, wr_id (n := (v : Int)) (by omega) (by omega), wr_id (n := (Y : Int)) (by omega) (by omega), wr_id (n := (u : Int) - X) (by omega) (by omega), wr_id (n := (v : Int) - Y) (by omega) (by omega),
    wr_id (n := 0 - ((u : Int) - X)) (by omega) (by omega), wr_id (n := 0 - ((v : Int) - Y)) (by omega) (by omega), mx4_le]
  omega
theorem nearRows_add (w cell f : Int) : ∀ (a b i : Nat), nearRows w cell f tlo thi rlo rhi i (a + b) = nearRows w cell f tlo thi rlo rhi i a ++ nearRows w cell f tlo thi rlo rhi (i + a) b
  | 0, b, i => by simp [nearRows]
  | a + 1, b, i => by
    rw [show a + 1 + b = (a + b) + 1 by omega]
    simp only [nearRows]
    rw [nearRows_add w cell f a b (i + 1), List.append_assoc, show i + 1 + a = i + (a + 1) by omega]
theorem nearRows_none {w cell f : Int} : ∀ (k i : Nat), (∀ j, i ≤ j → j < i + k → ¬ awayV w cell (j : Nat) ≤ f) → nearRows w cell f tlo thi rlo rhi i k = []
  | 0, i, _ => rfl
  | k + 1, i, h => by
    simp only [nearRows]
    rw [if_neg (h i (Nat.le_refl _) (by omega)), nearRows_none k (i + 1) fun j h1 h2 => h j (by omega) (by omega)]
    rfl
theorem nearRows_row {cell f : Int} {v : Nat} (hv : v < 100000) (hW : W < 100000) : ∀ (k u : Nat), u + k ≤ W → (∀ j, u ≤ j → j < u + k → awayV W cell ((v * W + j : Nat) : Int) ≤ f) →
    nearRows W cell f tlo thi rlo rhi (v * W + u) k = rowsU W v tlo thi rlo rhi u k
  | 0, u, _, _ => rfl
  | k + 1, u, hk, h => by
    simp only [nearRows, rowsU]
    rw [if_pos (h u (Nat.le_refl _) (by omega)), show v * W + u + 1 = v * W + (u + 1) by omega, nearRows_row hv hW k (u + 1) (by omega) fun j h1 h2 => h j (by omega) (by omega)]
    have hm : v * W ≤ 100000 * 100000 := Nat.mul_le_mul (by omega) (by omega)
    have e : ((v * W : Nat) : Int) = (v : Int) * (W : Int) := by simp
    rw [← e, wr_id (n := ((v * W : Nat) : Int)) (by omega) (by omega), wr_id (by omega) (by omega)]
    rfl
theorem nearRows_line {v u0 c : Nat} (hX : X < W) (hv : v < 100000) (hY : Y < 100000) (hW : W < 100000) (h1 : v ≤ Y + far) (h2 : Y ≤ v + far) (hu0 : u0 = X - far) (hc : u0 + c = min W (X + far + 1)) :
    nearRows W (Y * W + X : Nat) far tlo thi rlo rhi (v * W) W = rowsU W v tlo thi rlo rhi u0 c := by
  obtain ⟨r, hr⟩ : ∃ r, W = u0 + c + r := ⟨W - (u0 + c), by omega⟩
  have e : nearRows W (Y * W + X : Nat) far tlo thi rlo rhi (v * W) W = nearRows W (Y * W + X : Nat) far tlo thi rlo rhi (v * W) (u0 + c + r) := by rw [← hr]
  rw [e, nearRows_add, nearRows_add, nearRows_none u0, List.nil_append, nearRows_row hv hW c u0 (by omega), nearRows_none r, List.append_nil]
  · intro j j1 j2
    obtain ⟨t, rfl⟩ : ∃ t, j = v * W + t := ⟨j - v * W, by omega⟩
    rw [away_le (by omega) hX hv hY hW]
    omega
  · intro j j1 j2
    rw [away_le (by omega) hX hv hY hW]
    omega
  · intro j j1 j2
    obtain ⟨t, rfl⟩ : ∃ t, j = v * W + t := ⟨j - v * W, by omega⟩
    rw [away_le (by omega) hX hv hY hW]
    omega
theorem nearRows_off {v : Nat} (hX : X < W) (hv : v < 100000) (hY : Y < 100000) (hW : W < 100000) (h1 : ¬ (v ≤ Y + far ∧ Y ≤ v + far)) :
    nearRows W (Y * W + X : Nat) far tlo thi rlo rhi (v * W) W = [] := by
  refine nearRows_none W _ fun j j1 j2 => ?_
  obtain ⟨t, rfl⟩ : ∃ t, j = v * W + t := ⟨j - v * W, by omega⟩
  rw [away_le (by omega) hX hv hY hW]
  omega
theorem nearRows_lines_off (hX : X < W) (hY : Y < 100000) (hW : W < 100000) : ∀ (k v : Nat), v + k < 100000 → (∀ j, v ≤ j → j < v + k → ¬ (j ≤ Y + far ∧ Y ≤ j + far)) → nearRows W (Y * W + X : Nat) far tlo thi rlo rhi (v * W) (k * W) = []
  | 0, v, _, _ => by simp [nearRows]
  | k + 1, v, hk, h => by
    rw [Nat.succ_mul, Nat.add_comm (k * W) W, nearRows_add, nearRows_off hX (by omega) hY hW (h v (Nat.le_refl _) (by omega)), List.nil_append, show v * W + W = (v + 1) * W by rw [Nat.succ_mul],
      nearRows_lines_off hX hY hW k (v + 1) (by omega) fun j h1 h2 => h j (by omega) (by omega)]
theorem nearRows_lines {u0 c : Nat} (hX : X < W) (hY : Y < 100000) (hW : W < 100000) (hu0 : u0 = X - far) (hc : u0 + c = min W (X + far + 1)) : ∀ (k v : Nat), v + k < 100000 → (∀ j, v ≤ j → j < v + k → j ≤ Y + far ∧ Y ≤ j + far) →
    nearRows W (Y * W + X : Nat) far tlo thi rlo rhi (v * W) (k * W) = rowsV W tlo thi rlo rhi u0 c v k
  | 0, v, _, _ => by simp [nearRows, rowsV]
  | k + 1, v, hk, h => by
    obtain ⟨h1, h2⟩ := h v (Nat.le_refl _) (by omega)
    rw [Nat.succ_mul, Nat.add_comm (k * W) W, nearRows_add, nearRows_line hX (by omega) hY hW h1 h2 hu0 hc, show v * W + W = (v + 1) * W by rw [Nat.succ_mul],
      nearRows_lines hX hY hW hu0 hc k (v + 1) (by omega) fun j h1 h2 => h j (by omega) (by omega)]
    rfl
theorem nearRows_all {H u0 c v0 d : Nat} (hX : X < W) (hY : Y < H) (hW : W < 100000) (hH : H < 100000) (hu0 : u0 = X - far) (hc : u0 + c = min W (X + far + 1)) (hv0 : v0 = Y - far) (hd : v0 + d = min H (Y + far + 1)) :
    nearRows W (Y * W + X : Nat) far tlo thi rlo rhi 0 (W * H) = rowsV W tlo thi rlo rhi u0 c v0 d := by
  obtain ⟨r, hr⟩ : ∃ r, H = v0 + d + r := ⟨H - (v0 + d), by omega⟩
  have e : W * H = v0 * W + d * W + r * W := by rw [hr, ← Nat.add_mul, ← Nat.add_mul, Nat.mul_comm]
  have e0 := nearRows_lines_off (W := W) (X := X) (Y := Y) (far := far) (tlo := tlo) (thi := thi) (rlo := rlo) (rhi := rhi) hX (by omega) hW v0 0 (by omega) fun j h1 h2 => by omega
  have e2 := nearRows_lines_off (W := W) (X := X) (Y := Y) (far := far) (tlo := tlo) (thi := thi) (rlo := rlo) (rhi := rhi) hX (by omega) hW r (v0 + d) (by omega) fun j h1 h2 => by omega
  rw [Nat.zero_mul] at e0
  rw [e, nearRows_add, nearRows_add, e0, List.nil_append, Nat.zero_add, nearRows_lines hX (by omega) hW hu0 hc d v0 (by omega) fun j h1 h2 => by omega]
  rw [show 0 + (v0 * W + d * W) = (v0 + d) * W by rw [Nat.zero_add, Nat.add_mul], e2, List.append_nil]
end
end Go.Ab.Wave
namespace Go.Ab
def OLe {α : Type} (x y : Option α) : Prop := ∀ r, x = some r → y = some r
theorem OLe.refl {α : Type} (x : Option α) : OLe x x := fun _ h => h
theorem OLe.none {α : Type} (y : Option α) : OLe none y := fun _ h => by cases h
def RLe (a b : RunFn) : Prop := ∀ g rd st, OLe (a g rd st) (b g rd st)
def CLe (a b : CallFn) : Prop := ∀ g f args A, OLe (a g f args A) (b g f args A)
def FLe (a b : Nat → Nat → List Value → Hp → Option (Value × Hp)) : Prop := ∀ g f args A, OLe (a g f args A) (b g f args A)
theorem opA_mono {cv cv' : CallFn} (h : CLe cv cv') (op : AOp) (g : Nat) (T : List Value) (A : Hp) : OLe (opA op cv g T A) (opA op cv' g T A) := by
  cases op <;> first | exact OLe.refl _ | exact h _ _ _ _ | skip
  case callC f args =>
    intro r hr
    obtain ⟨v, A'⟩ := r
    obtain ⟨h1, h2⟩ := stillBut_some hr
    exact stillBut_of (h _ _ _ _ _ h1) h2
theorem operA_mono {cv cv' : CallFn} (h : CLe cv cv') {n n' : List Value → Hp → Option (List Value × Hp)} (hn : ∀ T A, OLe (n T A) (n' T A)) (o : AOper) (g : Nat) (T : List Value) (A : Hp) :
    OLe (operA o n cv g T A) (operA o n' cv' g T A) := by
  intro r hr
  unfold operA at hr ⊢
  split at hr
  · rename_i h1
    rw [if_pos h1]
    split at hr
    · rename_i h2
      rw [if_pos h2]
      split at hr
      · rename_i v A' hv
        rw [opA_mono h _ _ _ _ _ hv]
        rw [forceV_eq] at hr
        simp only [forceV_eq]
        exact hn _ _ _ hr
      · cases hr
    · cases hr
  · rename_i h1
    rw [if_neg h1]
    exact hn _ _ _ hr
theorem opsA_mono {cv cv' : CallFn} (h : CLe cv cv') (g : Nat) : ∀ (l : List AOper) (T : List Value) (A : Hp), OLe (opsA cv g l T A) (opsA cv' g l T A) := by
  intro l
  induction l with
  | nil => intro T A; exact OLe.refl _
  | cons o l ih => intro T A; rw [opsA_cons, opsA_cons]; exact operA_mono h ih o g T A
theorem finishA_mono {rs : List ARes} {x y : Option (Ex × St)} (h : OLe x y) : OLe (finishA rs x) (finishA rs y) := by
  intro r hr
  cases x with
  | none => cases hr
  | some p => rw [h p rfl]; exact hr
theorem enterA_mono {a b : ACode → RunFn} (h : ∀ c, RLe (a c) (b c)) (g : Nat) (args : List Value) (A : Hp) (f : Option AFunc) : OLe (enterA a g args A f) (enterA b g args A f) := by
  intro r hr
  unfold enterA at hr ⊢
  split at hr
  · exact finishA_mono (h _ _ _ _) _ hr
  · exact hr
  · cases hr
section
variable {AP : Nat → Option AFunc} {K : Nat → Option Spec} {a b : ACode → RunFn}
theorem callF_mono (h : ∀ c, RLe (a c) (b c)) : FLe (callF AP K a) (callF AP K b) := by
  intro g f args A r hr
  unfold callF at hr ⊢
  split at hr
  · exact hr
  · exact enterA_mono h _ _ _ _ _ hr
theorem endRound_mono {l : Nat} {x y : Option (Ex × St)} (h : OLe x y) : OLe (endRoundA l x) (endRoundA l y) := by
  intro r hr
  cases x with
  | none => cases hr
  | some p => rw [h p rfl]; exact hr
theorem beginRound_mono (h : ∀ c, RLe (a c) (b c)) {g l : Nat} {body : ACode} {x y : Option (Ex × St)} (hx : OLe x y) : OLe (beginRoundA a g l body x) (beginRoundA b g l body y) := by
  intro r hr
  cases x with
  | none => cases hr
  | some p =>
    rw [hx p rfl]
    unfold beginRoundA at hr ⊢
    split at hr
    · rename_i st1 he
      cases he
      split at hr
      · rename_i r1 h1
        split at hr
        · rename_i h2
          exact endRound_mono (h _ _ _ _) _ hr
        · cases hr
      · cases hr
    · cases hr
theorem yieldA_mono (h : ∀ c, RLe (a c) (b c)) (g l : Nat) (args : List Value) (A : Hp) : OLe (yieldA a g l args A) (yieldA b g l args A) := by
  intro r hr
  unfold yieldA at hr ⊢
  split at hr
  · rename_i r1 h1
    split at hr
    · rename_i h2
      rw [if_pos h2]
      exact beginRound_mono h (h _ _ _ _) _ hr
    · cases hr
  · cases hr
theorem callV_mono (h : ∀ c, RLe (a c) (b c)) : CLe (callV AP K a) (callV AP K b) := by
  intro g f args A r hr
  unfold callV at hr ⊢
  split at hr
  · exact callF_mono h _ _ _ _ _ hr
  · exact yieldA_mono h _ _ _ _ _ hr
  · cases hr
end
theorem seqA_mono {a b : RunFn} (h : RLe a b) {g : Nat} {rd : Option Nat} {x y : Option (Ex × St)} (hx : OLe x y) : OLe (seqA a g rd x) (seqA b g rd y) := by
  intro r hr
  cases x with
  | none => cases hr
  | some p =>
    rw [hx p rfl]
    obtain ⟨ex, st⟩ := p
    cases ex with
    | normal => exact h _ _ _ _ hr
    | exit i => exact hr
    | ret => exact hr
theorem condA_mono {a a' b b' : RunFn} (h : RLe a a') (h' : RLe b b') (g : Nat) (rd : Option Nat) (st : St) (v : Value) : OLe (condA a b g rd st v) (condA a' b' g rd st v) := by
  intro r hr
  unfold condA at hr ⊢
  split at hr
  · exact h _ _ _ _ hr
  · exact h' _ _ _ _ hr
  · cases hr
theorem inBlk_mono {id : Nat} {x y : Option (Ex × St)} (h : OLe x y) : OLe (inBlk id x) (inBlk id y) := by
  intro r hr
  cases x with
  | none => cases hr
  | some p => rw [h p rfl]; exact hr
theorem iterA_mono {a b : RunFn} (h : RLe a b) : ∀ {m m' : Nat}, m ≤ m' → RLe (iterA a m) (iterA b m') := by
  intro m
  induction m with
  | zero => intro m' _ g rd st r hr; cases hr
  | succ m ih =>
    intro m' hm g rd st r hr
    obtain ⟨k, rfl⟩ : ∃ k, m' = k + 1 := ⟨m' - 1, by omega⟩
    exact seqA_mono (ih (by omega)) (h _ _ _) _ hr
theorem endLoopA_mono {l : Nat} {T : List Value} {D : List Nat} {x y : Option (Value × Hp)} (h : OLe x y) : OLe (endLoopA l T D x) (endLoopA l T D y) := by
  intro r hr
  cases x with
  | none => cases hr
  | some p => rw [h p rfl]; exact hr
theorem rangeA_mono {cf cf' : Nat → Nat → List Value → Hp → Option (Value × Hp)} (h : FLe cf cf') (ps : List Nat) (asg body : ACode) (g : Nat) (rd : Option Nat) (st : St) (v : Value) :
    OLe (rangeA cf ps asg body g rd st v) (rangeA cf' ps asg body g rd st v) := by
  intro r hr
  unfold rangeA at hr ⊢
  split at hr
  · split at hr
    · exact endLoopA_mono (h _ _ _ _) _ hr
    · split at hr
      · exact endLoopA_mono (h _ _ _ _) _ hr
      · cases hr
  · cases hr
theorem codeA_mono {cv cv' : CallFn} {cf cf' : Nat → Nat → List Value → Hp → Option (Value × Hp)} (hv : CLe cv cv') (hf : FLe cf cf') {m m' : Nat} (hm : m ≤ m') : ∀ c, RLe (codeA cv cf m c) (codeA cv' cf' m' c) := by
  intro c
  induction c with
  | skip => intro g rd st; exact OLe.refl _
  | ops l =>
    intro g rd st r hr
    change (opsA cv g l st.T st.A).map _ = _ at hr
    change (opsA cv' g l st.T st.A).map _ = _
    rw [Option.map_eq_some_iff] at hr ⊢
    obtain ⟨p, hp, he⟩ := hr
    exact ⟨p, opsA_mono hv _ _ _ _ _ hp, he⟩
  | seq a b iha ihb => intro g rd st; exact seqA_mono ihb (iha _ _ _)
  | cond c a b iha ihb => intro g rd st; exact condA_mono iha ihb _ _ _ _
  | block id c ih => intro g rd st; exact inBlk_mono (ih _ _ _)
  | loop c ih => exact iterA_mono ih hm
  | exit id => intro g rd st; exact OLe.refl _
  | ret => intro g rd st; exact OLe.refl _
  | rangeF f ps a b iha ihb => intro g rd st; exact rangeA_mono hf _ _ _ _ _ _ _
theorem exec_mono {AP : Nat → Option AFunc} {K : Nat → Option Spec} {m m' : Nat} (hm : m ≤ m') : ∀ {d d' : Nat}, d ≤ d' → ∀ c, RLe (exec AP K m d c) (exec AP K m' d' c) := by
  intro d
  induction d with
  | zero => intro d' _ c g rd st r hr; cases hr
  | succ d ih =>
    intro d' hd c
    obtain ⟨k, rfl⟩ : ∃ k, d' = k + 1 := ⟨d' - 1, by omega⟩
    exact codeA_mono (callV_mono (ih (by omega))) (callF_mono (ih (by omega))) hm c
end Go.Ab
namespace Go.Ab
section
variable (AP : Nat → Option AFunc) (K : Nat → Option Spec)
def W (g : Nat) (rd : Option Nat) (c : ACode) (st : St) (Q : Ex → St → Prop) : Prop := ∃ m d ex st', exec AP K m d c g rd st = some (ex, st') ∧ Q ex st'
def WF (g f : Nat) (args : List Value) (A : Hp) (Q : Value → Hp → Prop) : Prop := ∃ m d v A', callF AP K (exec AP K m d) g f args A = some (v, A') ∧ Q v A'
def WV (g : Nat) (f : Value) (args : List Value) (A : Hp) (Q : Value → Hp → Prop) : Prop := ∃ m d v A', callV AP K (exec AP K m d) g f args A = some (v, A') ∧ Q v A'
def WO (g : Nat) (l : List AOper) (T : List Value) (A : Hp) (R : List Value → Hp → Prop) : Prop := ∃ m d T' A', opsA (callV AP K (exec AP K m d)) g l T A = some (T', A') ∧ R T' A'
def WP (g : Nat) (op : AOp) (T : List Value) (A : Hp) (Q : Value → Hp → Prop) : Prop := ∃ m d v A', opA op (callV AP K (exec AP K m d)) g T A = some (v, A') ∧ Q v A'
def SeqQ (g : Nat) (rd : Option Nat) (b : ACode) (Q : Ex → St → Prop) : Ex → St → Prop
  | .normal, st => W AP K g rd b st Q
  | .ret, st => Q .ret st
  | .exit i, st => Q (.exit i) st
def PutQ (g : Nat) (dst : Option Nat) (l : List AOper) (T : List Value) (R : List Value → Hp → Prop) (v : Value) (A : Hp) : Prop := WO AP K g l (putA dst T v) A R
def CondW (g : Nat) (rd : Option Nat) (a b : ACode) (st : St) (Q : Ex → St → Prop) : Value → Prop
  | .bool true => W AP K g rd a st Q
  | .bool false => W AP K g rd b st Q
  | _ => False
def GuardW (g : Nat) (dst : Option Nat) (op : AOp) (l : List AOper) (T : List Value) (A : Hp) (R : List Value → Hp → Prop) (b : Bool) : Value → Prop
  | .bool b' => if b' = b then WP AP K g op T A (PutQ AP K g dst l T R) else WO AP K g l (putA dst T undef) A R
  | _ => WO AP K g l (putA dst T undef) A R
def ApartW (g : Nat) (o : AOper) (l : List AOper) (T : List Value) (A : Hp) (R : List Value → Hp → Prop) : Bool → Prop
  | true => WO AP K g ({ o with apart := [] } :: l) T A R
  | false => False
end
def BlkQ (id : Nat) (Q : Ex → St → Prop) : Ex → St → Prop
  | .normal, st => Q .normal st
  | .ret, st => Q .ret st
  | .exit i, st => if i = id then Q .normal st else Q (.exit i) st
def OpsQ (D : List Nat) (Q : Ex → St → Prop) (T : List Value) (A : Hp) : Prop := Q .normal ⟨T, D, A⟩
def PureQ (A : Hp) (Q : Value → Hp → Prop) : Option Value → Prop
  | some v => Q v A
  | none => False
def HeapQ (Q : Value → Hp → Prop) : Option (Value × Hp) → Prop
  | some (v, A) => Q v A
  | none => False
def FinQ (rs : List ARes) (Q : Value → Hp → Prop) : Ex → St → Prop
  | .exit _, _ => False
  | .normal, st => match takeMarks st.A st.D with
    | some A' => PureQ A' Q (resA rs st.T A')
    | none => False
  | .ret, st => match takeMarks st.A st.D with
    | some A' => PureQ A' Q (resA rs st.T A')
    | none => False
section
variable {AP : Nat → Option AFunc} {K : Nat → Option Spec} {g : Nat} {rd : Option Nat} {st : St} {T : List Value} {D : List Nat} {A : Hp} {Q : Ex → St → Prop} {R : List Value → Hp → Prop} {V : Value → Hp → Prop}
@[simp] theorem SeqQ_normal {b : ACode} : SeqQ AP K g rd b Q .normal st = W AP K g rd b st Q := rfl
@[simp] theorem SeqQ_ret {b : ACode} : SeqQ AP K g rd b Q .ret st = Q .ret st := rfl
@[simp] theorem SeqQ_exit {b : ACode} {i : Nat} : SeqQ AP K g rd b Q (.exit i) st = Q (.exit i) st := rfl
@[simp] theorem BlkQ_normal {id : Nat} : BlkQ id Q .normal st = Q .normal st := rfl
@[simp] theorem BlkQ_ret {id : Nat} : BlkQ id Q .ret st = Q .ret st := rfl
@[simp] theorem BlkQ_exit {id i : Nat} : BlkQ id Q (.exit i) st = if i = id then Q .normal st else Q (.exit i) st := rfl
@[simp] theorem OpsQ_eq : OpsQ D Q T A = Q .normal ⟨T, D, A⟩ := rfl
@[simp] theorem PutQ_eq {dst : Option Nat} {l : List AOper} {v : Value} : PutQ AP K g dst l T R v A = WO AP K g l (putA dst T v) A R := rfl
@[simp] theorem PureQ_some {v : Value} : PureQ A V (some v) = V v A := rfl
@[simp] theorem HeapQ_some {v : Value} : HeapQ V (some (v, A)) = V v A := rfl
@[simp] theorem CondW_true {a b : ACode} : CondW AP K g rd a b st Q (.bool true) = W AP K g rd a st Q := rfl
@[simp] theorem CondW_false {a b : ACode} : CondW AP K g rd a b st Q (.bool false) = W AP K g rd b st Q := rfl
@[simp] theorem ApartW_true {o : AOper} {l : List AOper} : ApartW AP K g o l T A R true = WO AP K g ({ o with apart := [] } :: l) T A R := rfl
@[simp] theorem GuardW_tt {dst : Option Nat} {op : AOp} {l : List AOper} : GuardW AP K g dst op l T A R true (.bool true) = WP AP K g op T A (PutQ AP K g dst l T R) := rfl
@[simp] theorem GuardW_ff {dst : Option Nat} {op : AOp} {l : List AOper} : GuardW AP K g dst op l T A R false (.bool false) = WP AP K g op T A (PutQ AP K g dst l T R) := rfl
@[simp] theorem GuardW_tf {dst : Option Nat} {op : AOp} {l : List AOper} : GuardW AP K g dst op l T A R true (.bool false) = WO AP K g l (putA dst T undef) A R := rfl
@[simp] theorem GuardW_ft {dst : Option Nat} {op : AOp} {l : List AOper} : GuardW AP K g dst op l T A R false (.bool true) = WO AP K g l (putA dst T undef) A R := rfl
private theorem lift {m m' d d' : Nat} (hm : m ≤ m') (hd : d ≤ d') {c : ACode} {r : Ex × St} (h : exec AP K m d c g rd st = some r) : exec AP K m' d' c g rd st = some r := exec_mono hm hd c g rd st r h
@[simp] theorem W_skip : W AP K g rd .skip st Q ↔ Q .normal st :=
  ⟨fun ⟨m, d, ex, st', h, q⟩ => by cases d with
    | zero => cases h
    | succ d => cases h; exact q, fun h => ⟨0, 1, _, _, rfl, h⟩⟩
@[simp] theorem W_exit {id : Nat} : W AP K g rd (.exit id) st Q ↔ Q (.exit id) st :=
  ⟨fun ⟨m, d, ex, st', h, q⟩ => by cases d with
    | zero => cases h
    | succ d => cases h; exact q, fun h => ⟨0, 1, _, _, rfl, h⟩⟩
@[simp] theorem W_ret : W AP K g rd .ret st Q ↔ Q .ret st :=
  ⟨fun ⟨m, d, ex, st', h, q⟩ => by cases d with
    | zero => cases h
    | succ d => cases h; exact q, fun h => ⟨0, 1, _, _, rfl, h⟩⟩
@[simp] theorem W_ops {l : List AOper} : W AP K g rd (.ops l) ⟨T, D, A⟩ Q ↔ WO AP K g l T A (OpsQ D Q) := by
  constructor
  · rintro ⟨m, d, ex, st', h, q⟩
    cases d with
    | zero => cases h
    | succ d =>
      change (opsA (callV AP K (exec AP K m d)) g l T A).map _ = _ at h
      rw [Option.map_eq_some_iff] at h
      obtain ⟨⟨T', A'⟩, h1, h2⟩ := h
      cases h2
      exact ⟨m, d, T', A', h1, q⟩
  · rintro ⟨m, d, T', A', h, q⟩
    exact ⟨m, d + 1, _, _, by change (opsA (callV AP K (exec AP K m d)) g l T A).map _ = _; rw [h]; rfl, q⟩
@[simp] theorem W_seq {a b : ACode} : W AP K g rd (.seq a b) st Q ↔ W AP K g rd a st (SeqQ AP K g rd b Q) := by
  constructor
  · rintro ⟨m, d, ex, st', h, q⟩
    cases d with
    | zero => cases h
    | succ d =>
      change seqA (exec AP K m (d + 1) b) g rd (exec AP K m (d + 1) a g rd st) = _ at h
      cases ha : exec AP K m (d + 1) a g rd st with
      | none => rw [ha] at h; cases h
      | some p =>
        obtain ⟨ex1, st1⟩ := p
        rw [ha] at h
        cases ex1 with
        | normal => exact ⟨m, d + 1, _, _, ha, m, d + 1, ex, st', h, q⟩
        | ret => cases h; exact ⟨m, d + 1, _, _, ha, q⟩
        | exit i => cases h; exact ⟨m, d + 1, _, _, ha, q⟩
  · rintro ⟨m, d, ex, st1, h, q⟩
    cases ex with
    | normal =>
      obtain ⟨m2, d2, ex2, st2, h2, q2⟩ := q
      refine ⟨Max.max m m2, Max.max d d2 + 1, ex2, st2, ?_, q2⟩
      change seqA (exec AP K _ (Max.max d d2 + 1) b) g rd (exec AP K _ (Max.max d d2 + 1) a g rd st) = _
      rw [lift (Nat.le_max_left m m2) (Nat.le_trans (Nat.le_max_left d d2) (Nat.le_succ _)) h]
      exact lift (Nat.le_max_right m m2) (Nat.le_trans (Nat.le_max_right d d2) (Nat.le_succ _)) h2
    | ret =>
      refine ⟨m, d + 1, .ret, st1, ?_, q⟩
      change seqA (exec AP K _ (d + 1) b) g rd (exec AP K _ (d + 1) a g rd st) = _
      rw [lift (Nat.le_refl m) (Nat.le_succ d) h]
      rfl
    | exit i =>
      refine ⟨m, d + 1, .exit i, st1, ?_, q⟩
      change seqA (exec AP K _ (d + 1) b) g rd (exec AP K _ (d + 1) a g rd st) = _
      rw [lift (Nat.le_refl m) (Nat.le_succ d) h]
      rfl
@[simp] theorem W_cond {c : Opd} {a b : ACode} : W AP K g rd (.cond c a b) ⟨T, D, A⟩ Q ↔ CondW AP K g rd a b ⟨T, D, A⟩ Q (ev T c) := by
  constructor
  · rintro ⟨m, d, ex, st', h, q⟩
    cases d with
    | zero => cases h
    | succ d =>
      change condA (exec AP K m (d + 1) a) (exec AP K m (d + 1) b) g rd ⟨T, D, A⟩ (ev T c) = _ at h
      unfold condA at h
      split at h
      · rename_i he; rw [he]; exact ⟨m, d + 1, _, _, h, q⟩
      · rename_i he; rw [he]; exact ⟨m, d + 1, _, _, h, q⟩
      · cases h
  · intro h
    unfold CondW at h
    split at h
    · rename_i he
      obtain ⟨m, d, ex, st', h, q⟩ := h
      refine ⟨m, d + 1, ex, st', ?_, q⟩
      change condA (exec AP K m (d + 1) a) (exec AP K m (d + 1) b) g rd ⟨T, D, A⟩ (ev T c) = _
      rw [he]
      exact lift (Nat.le_refl m) (Nat.le_succ d) h
    · rename_i he
      obtain ⟨m, d, ex, st', h, q⟩ := h
      refine ⟨m, d + 1, ex, st', ?_, q⟩
      change condA (exec AP K m (d + 1) a) (exec AP K m (d + 1) b) g rd ⟨T, D, A⟩ (ev T c) = _
      rw [he]
      exact lift (Nat.le_refl m) (Nat.le_succ d) h
    · cases h
@[simp] theorem W_block {id : Nat} {c : ACode} : W AP K g rd (.block id c) st Q ↔ W AP K g rd c st (BlkQ id Q) := by
  constructor
  · rintro ⟨m, d, ex, st', h, q⟩
    cases d with
    | zero => cases h
    | succ d =>
      change inBlk id (exec AP K m (d + 1) c g rd st) = _ at h
      cases hc : exec AP K m (d + 1) c g rd st with
      | none => rw [hc] at h; cases h
      | some p =>
        obtain ⟨ex1, st1⟩ := p
        rw [hc] at h
        cases ex1 with
        | normal => cases h; exact ⟨m, d + 1, _, _, hc, q⟩
        | ret => cases h; exact ⟨m, d + 1, _, _, hc, q⟩
        | exit i =>
          simp only [inBlk] at h
          refine ⟨m, d + 1, _, _, hc, ?_⟩
          simp only [BlkQ]
          split at h
          · rename_i hi; cases h; rw [if_pos hi]; exact q
          · rename_i hi; cases h; rw [if_neg hi]; exact q
  · rintro ⟨m, d, ex, st1, h, q⟩
    have h' := lift (Nat.le_refl m) (Nat.le_succ d) h
    cases ex with
    | normal => exact ⟨m, d + 1, .normal, st1, by change inBlk id (exec AP K m (d + 1) c g rd st) = _; rw [h']; rfl, q⟩
    | ret => exact ⟨m, d + 1, .ret, st1, by change inBlk id (exec AP K m (d + 1) c g rd st) = _; rw [h']; rfl, q⟩
    | exit i =>
      simp only [BlkQ] at q
      split at q
      · rename_i hi
        exact ⟨m, d + 1, .normal, st1, by change inBlk id (exec AP K m (d + 1) c g rd st) = _; rw [h']; simp [inBlk, hi], q⟩
      · rename_i hi
        exact ⟨m, d + 1, .exit i, st1, by change inBlk id (exec AP K m (d + 1) c g rd st) = _; rw [h']; simp [inBlk, hi], q⟩
theorem W_loop {c : ACode} : W AP K g rd (.loop c) st Q ↔ W AP K g rd c st (SeqQ AP K g rd (.loop c) Q) := by
  constructor
  · rintro ⟨m, d, ex, st', h, q⟩
    cases d with
    | zero => cases h
    | succ d =>
      change iterA (exec AP K m (d + 1) c) m g rd st = _ at h
      cases m with
      | zero => cases h
      | succ m =>
        change seqA (iterA (exec AP K (m + 1) (d + 1) c) m) g rd (exec AP K (m + 1) (d + 1) c g rd st) = _ at h
        cases hc : exec AP K (m + 1) (d + 1) c g rd st with
        | none => rw [hc] at h; cases h
        | some p =>
          obtain ⟨ex1, st1⟩ := p
          rw [hc] at h
          cases ex1 with
          | normal =>
            refine ⟨_, _, _, _, hc, m + 1, d + 1, ex, st', ?_, q⟩
            change iterA (exec AP K (m + 1) (d + 1) c) (m + 1) g rd st1 = _
            exact iterA_mono (fun _ _ _ => OLe.refl _) (Nat.le_succ m) _ _ _ _ h
          | ret => cases h; exact ⟨_, _, _, _, hc, q⟩
          | exit i => cases h; exact ⟨_, _, _, _, hc, q⟩
  · rintro ⟨m, d, ex, st1, h, q⟩
    cases ex with
    | normal =>
      obtain ⟨m2, d2, ex2, st2, h2, q2⟩ := q
      refine ⟨Max.max m m2 + 1, Max.max d d2 + 1, ex2, st2, ?_, q2⟩
      change seqA (iterA (exec AP K (Max.max m m2 + 1) (Max.max d d2 + 1) c) (Max.max m m2)) g rd (exec AP K (Max.max m m2 + 1) (Max.max d d2 + 1) c g rd st) = _
      rw [lift (Nat.le_trans (Nat.le_max_left m m2) (Nat.le_succ _)) (Nat.le_trans (Nat.le_max_left d d2) (Nat.le_succ _)) h]
      cases d2 with
      | zero => cases h2
      | succ d2 =>
        change iterA (exec AP K m2 (d2 + 1) c) m2 g rd st1 = _ at h2
        refine iterA_mono ?_ (Nat.le_max_right m m2) _ _ _ _ h2
        exact exec_mono (Nat.le_trans (Nat.le_max_right m m2) (Nat.le_succ _)) (Nat.le_trans (Nat.le_max_right d (d2 + 1)) (Nat.le_succ _)) c
    | ret =>
      refine ⟨m + 1, d + 1, .ret, st1, ?_, q⟩
      change seqA (iterA (exec AP K (m + 1) (d + 1) c) m) g rd (exec AP K (m + 1) (d + 1) c g rd st) = _
      rw [lift (Nat.le_succ m) (Nat.le_succ d) h]
      rfl
    | exit i =>
      refine ⟨m + 1, d + 1, .exit i, st1, ?_, q⟩
      change seqA (iterA (exec AP K (m + 1) (d + 1) c) m) g rd (exec AP K (m + 1) (d + 1) c g rd st) = _
      rw [lift (Nat.le_succ m) (Nat.le_succ d) h]
      rfl
theorem WF_mono {f : Nat} {args : List Value} {V' : Value → Hp → Prop} (h : WF AP K g f args A V) (hq : ∀ v A', V v A' → V' v A') : WF AP K g f args A V' := by
  obtain ⟨m, d, v, A', h, q⟩ := h
  exact ⟨m, d, v, A', h, hq _ _ q⟩
@[simp] theorem WO_nil : WO AP K g [] T A R ↔ R T A :=
  ⟨fun ⟨m, d, T', A', h, q⟩ => by simp at h; obtain ⟨rfl, rfl⟩ := h; exact q, fun h => ⟨0, 0, T, A, rfl, h⟩⟩
private theorem liftV {m m' d d' : Nat} (hm : m ≤ m') (hd : d ≤ d') : CLe (callV AP K (exec AP K m d)) (callV AP K (exec AP K m' d')) := callV_mono (exec_mono hm hd)
@[simp] theorem WO_cons {dst : Option Nat} {op : AOp} {l : List AOper} : WO AP K g (⟨dst, none, [], op⟩ :: l) T A R ↔ WP AP K g op T A (PutQ AP K g dst l T R) := by
  constructor
  · rintro ⟨m, d, T', A', h, q⟩
    rw [opsA_cons, operA_plain] at h
    cases ho : opA op (callV AP K (exec AP K m d)) g T A with
    | none => rw [ho] at h; cases h
    | some p =>
      obtain ⟨v, A1⟩ := p
      rw [ho, thenPut_some] at h
      exact ⟨m, d, v, A1, ho, m, d, T', A', h, q⟩
  · rintro ⟨m, d, v, A1, ho, m2, d2, T', A', h, q⟩
    refine ⟨Max.max m m2, Max.max d d2, T', A', ?_, q⟩
    rw [opsA_cons, operA_plain, opA_mono (liftV (Nat.le_max_left m m2) (Nat.le_max_left d d2)) _ _ _ _ _ ho, thenPut_some]
    exact opsA_mono (liftV (Nat.le_max_right m m2) (Nat.le_max_right d d2)) _ _ _ _ _ h
@[simp] theorem WO_guard {dst : Option Nat} {op : AOp} {x : Nat} {b : Bool} {l : List AOper} : WO AP K g (⟨dst, some (x, b), [], op⟩ :: l) T A R ↔ GuardW AP K g dst op l T A R b (tget T x) := by
  have yes : tget T x = .bool b → (WO AP K g (⟨dst, some (x, b), [], op⟩ :: l) T A R ↔ WP AP K g op T A (PutQ AP K g dst l T R)) := fun hx => by
    rw [← WO_cons]
    unfold WO
    simp only [opsA_cons, operA_guard, operA_plain, wantedA_some, hx, beq_self_eq_true, if_true]
  have no : wantedA (some (x, b)) T ≠ true → (WO AP K g (⟨dst, some (x, b), [], op⟩ :: l) T A R ↔ WO AP K g l (putA dst T undef) A R) := fun hx => by
    unfold WO
    simp only [opsA_cons, operA_guard, if_neg hx]
  unfold GuardW
  split
  · rename_i b' he
    by_cases hb : b' = b
    · subst hb; rw [if_pos rfl]; exact yes he
    · rw [if_neg hb]
      refine no ?_
      rw [wantedA_some, he]
      simpa using hb
  · rename_i he
    refine no ?_
    rw [wantedA_some]
    split
    · rename_i b' h'; exact absurd h' (he b')
    · simp
@[simp] theorem WO_apart {dst : Option Nat} {op : AOp} {p : Opd × Nat × Opd × Nat} {ps : List (Opd × Nat × Opd × Nat)} {l : List AOper} :
    WO AP K g (⟨dst, none, p :: ps, op⟩ :: l) T A R ↔ ApartW AP K g ⟨dst, none, p :: ps, op⟩ l T A R ((p :: ps).all (apartA T)) := by
  unfold ApartW
  split
  · rename_i h
    unfold WO
    simp only [opsA_cons, operA, wantedA, if_true, h, List.all_nil]
  · rename_i h
    unfold WO
    simp [opsA_cons, operA, wantedA, h]
theorem exHeap {r : Option (Value × Hp)} : (∃ (_ _ : Nat) (v : Value) (A' : Hp), r = some (v, A') ∧ V v A') ↔ HeapQ V r := by
  constructor
  · rintro ⟨_, _, v, A', rfl, h⟩; exact h
  · intro h
    cases r with
    | none => cases h
    | some p => exact ⟨0, 0, p.1, p.2, rfl, h⟩
theorem WP_of {op : AOp} {r : Option (Value × Hp)} (h : ∀ cv, opA op cv g T A = r) : WP AP K g op T A V ↔ HeapQ V r := by
  unfold WP
  simp only [h]
  exact exHeap
theorem WP_some {op : AOp} {v : Value} {A1 : Hp} (h : ∀ cv, opA op cv g T A = some (v, A1)) : WP AP K g op T A V ↔ V v A1 := WP_of h
theorem WP_pure {op : AOp} {r : Option Value} (h : ∀ cv, opA op cv g T A = pureV r A) : WP AP K g op T A V ↔ PureQ A V r := by
  rw [WP_of h]
  cases r <;> simp [pureV, HeapQ, PureQ]
@[simp] theorem WP_move {x : Opd} : WP AP K g (.move x) T A V ↔ V (ev T x) A := WP_some fun _ => rfl
@[simp] theorem WP_pick {c a b : Opd} : WP AP K g (.pick c a b) T A V ↔ PureQ A V (pickA (ev T c) (ev T a) (ev T b)) := WP_pure fun _ => rfl
@[simp] theorem WP_nilCheck {x : Opd} : WP AP K g (.nilCheck x) T A V ↔ PureQ A V (nilCheckA (ev T x)) := WP_pure fun _ => rfl
@[simp] theorem WP_bin {op : BinOp} {x y : Opd} : WP AP K g (.bin op x y) T A V ↔ PureQ A V (binA op (ev T x) (ev T y)) := WP_pure fun _ => rfl
@[simp] theorem WP_beq {n : Bool} {x y : Opd} : WP AP K g (.beq n x y) T A V ↔ PureQ A V (beqA n (ev T x) (ev T y)) := WP_pure fun _ => rfl
@[simp] theorem WP_eqv {n : Bool} {sh : List Bool} {x y : Opd} : WP AP K g (.eqv n sh x y) T A V ↔ PureQ A V (eqvA n sh (ev T x) (ev T y)) := WP_pure fun _ => rfl
@[simp] theorem WP_eqNil {k : Nat} {n : Bool} {x : Opd} : WP AP K g (.eqNil k n x) T A V ↔ PureQ A V (eqNilA k n (ev T x)) := WP_pure fun _ => rfl
@[simp] theorem WP_neg {x : Opd} : WP AP K g (.neg x) T A V ↔ PureQ A V (negA (ev T x)) := WP_pure fun _ => rfl
@[simp] theorem WP_not {x : Opd} : WP AP K g (.not x) T A V ↔ PureQ A V (notA (ev T x)) := WP_pure fun _ => rfl
@[simp] theorem WP_toInt {k : IntKind} {x : Opd} : WP AP K g (.toInt k x) T A V ↔ PureQ A V (toIntA k (ev T x)) := WP_pure fun _ => rfl
@[simp] theorem WP_toF64 {x : Opd} : WP AP K g (.toF64 x) T A V ↔ PureQ A V (toF64A (ev T x)) := WP_pure fun _ => rfl
@[simp] theorem WP_makeFunc {f : Nat} {a b : List Opd} : WP AP K g (.makeFunc f a b) T A V ↔ V (.func (.func f) (a.map (ev T)).toArray (b.map (ev T)).toArray) A := WP_some fun _ => rfl
@[simp] theorem WP_build {z : List Value} {ps : List (Nat × Nat × Opd)} : WP AP K g (.build z ps) T A V ↔ PureQ A V ((fillA z (ps.map fun p => (p.1, p.2.1, ev T p.2.2))).map fun cs => .agg cs.toArray) := WP_pure fun _ => rfl
@[simp] theorem WP_fieldAddr {x : Opd} {off : Nat} : WP AP K g (.fieldAddr x off) T A V ↔ PureQ A V (fieldAddrA off (ev T x)) := WP_pure fun _ => rfl
@[simp] theorem WP_field {x : Opd} {off : Nat} {s : Option Nat} : WP AP K g (.field x off s) T A V ↔ PureQ A V (fieldA off s (ev T x)) := WP_pure fun _ => rfl
@[simp] theorem WP_idxS {x i : Opd} {e : Nat} : WP AP K g (.idxS x i e) T A V ↔ PureQ A V (idxSA e (ev T x) (ev T i)) := WP_pure fun _ => rfl
@[simp] theorem WP_idxA {x i : Opd} {n e : Nat} : WP AP K g (.idxA x i n e) T A V ↔ PureQ A V (idxAA n e (ev T x) (ev T i)) := WP_pure fun _ => rfl
@[simp] theorem WP_index {x i : Opd} {n e : Nat} {a : Bool} : WP AP K g (.index x i n e a) T A V ↔ PureQ A V (indexA n e a (ev T x) (ev T i)) := WP_pure fun _ => rfl
@[simp] theorem WP_reslice {x : Opd} {lo hi : Option Opd} {e : Nat} : WP AP K g (.reslice x lo hi e) T A V ↔ PureQ A V (resliceA e (ev T x) (boundA T 0 lo) (fun n => boundA T n hi)) := WP_pure fun _ => rfl
@[simp] theorem WP_extract {x : Opd} {i : Nat} : WP AP K g (.extract x i) T A V ↔ PureQ A V (extractA i (ev T x)) := WP_pure fun _ => rfl
@[simp] theorem WP_len {x : Opd} : WP AP K g (.len x) T A V ↔ PureQ A V (lenV (ev T x)) := WP_pure fun _ => rfl
@[simp] theorem WP_lenT {x : Opd} : WP AP K g (.lenT x) T A V ↔ PureQ A V (lenTV (ev T x)) := WP_pure fun _ => rfl
@[simp] theorem WP_min {l : List Opd} : WP AP K g (.min l) T A V ↔ PureQ A V (minA (l.map (ev T))) := WP_pure fun _ => rfl
@[simp] theorem WP_max {l : List Opd} : WP AP K g (.max l) T A V ↔ PureQ A V (maxA (l.map (ev T))) := WP_pure fun _ => rfl
@[simp] theorem WP_alloc {z : List Value} : WP AP K g (.alloc z) T A V ↔ V (.pointer (some ⟨A.n, 0, none⟩)) (A.push (.cells z false)) := WP_some fun _ => rfl
@[simp] theorem WP_box {x : Opd} : WP AP K g (.box x) T A V ↔ V (.pointer (some ⟨A.n, 0, none⟩)) (A.push (.cells (ev T x).cells.toList false)) := WP_some fun _ => rfl
@[simp] theorem WP_slit {n e : Nat} {z : List Value} {ps : List (Nat × Opd)} : WP AP K g (.slit n e z ps) T A V ↔ HeapQ V (slitA n e (fillA (zeros n z) (ps.map fun p => (p.1 * e, e, ev T p.2))) A) := WP_of fun _ => rfl
@[simp] theorem WP_makeS {l c : Opd} {e b : Nat} {z : List Value} : WP AP K g (.makeS l c e b z) T A V ↔ HeapQ V (makeSA e b z (ev T l) (ev T c) A) := WP_of fun _ => rfl
@[simp] theorem WP_load {x : Opd} {s : Option Nat} : WP AP K g (.load x s) T A V ↔ PureQ A V (loadA A (ev T x) s) := WP_pure fun _ => rfl
@[simp] theorem WP_store {x v : Opd} {s : Nat} : WP AP K g (.store x v s) T A V ↔ HeapQ V (storeV (storeA g A (ev T x) (ev T v) s)) := WP_of fun _ => rfl
@[simp] theorem WP_append {s x : Opd} {e b : Nat} : WP AP K g (.append s x e b) T A V ↔ HeapQ V (appendA g A e b (ev T s) (ev T x)) := WP_of fun _ => rfl
@[simp] theorem WP_copy {d s : Opd} {e : Nat} : WP AP K g (.copy d s e) T A V ↔ HeapQ V (copyA g A e (ev T d) (ev T s)) := WP_of fun _ => rfl
@[simp] theorem WP_call {f : Opd} {args : List Opd} {ro : Bool} : WP AP K g (.call f args ro) T A V ↔ WV AP K (if ro then A.n else g) (ev T f) (args.map (ev T)) A V := Iff.rfl
@[simp] theorem WP_callC {f : Opd} {args : List Opd} : WP AP K g (.callC f args) T A V ↔ WV AP K g (ev T f) (args.map (ev T)) A (fun v A' => OnlyC A (ev T f) A' ∧ V v A') := by
  constructor
  · rintro ⟨m, d, v, A', h, q⟩
    obtain ⟨h1, h2⟩ := stillBut_some h
    exact ⟨m, d, v, A', h1, h2, q⟩
  · rintro ⟨m, d, v, A', h, h2, q⟩
    exact ⟨m, d, v, A', stillBut_of h h2, q⟩
@[simp] theorem WV_func {h : Nat} {first captured : Array Value} {args : List Value} : WV AP K g (.func (.func h) first captured) args A V ↔ WF AP K g h (first.toList ++ args ++ captured.toList) A V := Iff.rfl
theorem WF_spec {f : Nat} {args : List Value} {S : Spec} (h : K f = some S) : WF AP K g f args A V ↔ HeapQ V (S g args A) := by
  unfold WF
  simp only [callF, h]
  exact exHeap
theorem WF_body {f nt : Nat} {rs : List ARes} {c : ACode} {args : List Value} (h : K f = none) (h' : AP f = some (.fn nt rs c)) : WF AP K g f args A V ↔ W AP K g none c ⟨args, [], A⟩ (FinQ rs V) := by
  unfold WF W
  simp only [callF, h, enterA, h']
  constructor
  · rintro ⟨m, d, v, A', hr, q⟩
    cases he : exec AP K m d c g none ⟨args, [], A⟩ with
    | none => rw [he] at hr; cases hr
    | some p =>
      obtain ⟨ex, st'⟩ := p
      rw [he] at hr
      refine ⟨m, d, ex, st', he, ?_⟩
      cases ex with
      | exit i => cases hr
      | normal =>
        simp only [finishA] at hr
        simp only [FinQ]
        split at hr
        · rename_i A1 hm
          rw [Option.map_eq_some_iff] at hr
          obtain ⟨u, hu, e⟩ := hr
          cases e
          simp only [hm, hu]; exact q
        · cases hr
      | ret =>
        simp only [finishA] at hr
        simp only [FinQ]
        split at hr
        · rename_i A1 hm
          rw [Option.map_eq_some_iff] at hr
          obtain ⟨u, hu, e⟩ := hr
          cases e
          simp only [hm, hu]; exact q
        · cases hr
  · rintro ⟨m, d, ex, st', he, q⟩
    cases ex with
    | exit i => cases q
    | normal =>
      simp only [FinQ] at q
      split at q
      · rename_i A1 hm
        cases hu : resA rs st'.T A1 with
        | none => simp only [hu] at q; cases q
        | some v => simp only [hu] at q; exact ⟨m, d, v, A1, by rw [he]; simp [finishA, hm, hu], q⟩
      · cases q
    | ret =>
      simp only [FinQ] at q
      split at q
      · rename_i A1 hm
        cases hu : resA rs st'.T A1 with
        | none => simp only [hu] at q; cases q
        | some v => simp only [hu] at q; exact ⟨m, d, v, A1, by rw [he]; simp [finishA, hm, hu], q⟩
      · cases q
theorem WF_sqrt {f : Nat} {args : List Value} (h : K f = none) (h' : AP f = some .sqrt) : WF AP K g f args A V ↔ PureQ A V (sqrtA args) := by
  unfold WF
  simp only [callF, h, enterA, h']
  rw [exHeap]
  cases sqrtA args <;> rfl
@[simp] theorem FinQ_ret {rs : List ARes} : FinQ rs V .ret st = match takeMarks st.A st.D with
    | some A' => PureQ A' V (resA rs st.T A')
    | none => False := rfl
@[simp] theorem FinQ_normal {rs : List ARes} : FinQ rs V .normal st = match takeMarks st.A st.D with
    | some A' => PureQ A' V (resA rs st.T A')
    | none => False := rfl
end
theorem get_push_old {A : Hp} {b : ABlk} {x : Nat} (h : x < A.n) : (A.push b).get x = A.get x := by rw [Hp.get_push, if_neg (by omega)]
@[simp] theorem get_push_new {A : Hp} {b : ABlk} : (A.push b).get A.n = some b := by rw [Hp.get_push, if_pos rfl]
theorem get_set_ne {A : Hp} {x y : Nat} {b : Option ABlk} (hx : x < A.n) (h : y ≠ x) : (A.set x b).get y = A.get y := by
  unfold Hp.get Hp.set
  by_cases hy : y < A.n
  · simp only [hy, if_true]
    rw [List.getElem?_set_ne (by omega)]
  · simp [hy]
theorem get_set_same {A : Hp} {x : Nat} {b : Option ABlk} {b0 : ABlk} (h : A.get x = some b0) : (A.set x b).get x = b := by rw [Hp.get_set h, if_pos rfl]
end Go.Ab
namespace Go.Ab
theorem AccS.weaken {N N' : Nat} {A : Hp} {k : Nat} {cs : List Value} {sv : Value} (h : AccS N A k cs sv) (hN : N' ≤ N) : AccS N' A k cs sv := by
  rcases h with h | ⟨b, n, h1, h2, h3, h4, h5⟩
  · exact .inl h
  · exact .inr ⟨b, n, h1, h2, by omega, h4, h5⟩
def accV (x k : Nat) (cs : List Value) : Value := if cs = [] then .slice none 0 0 else .slice (some ⟨x, 0, some k⟩) (cs.length / k) (cs.length / k)
def accOut (cs : List Value) : Option (List Value) := if cs = [] then none else some cs
theorem AccS.cases {N k : Nat} {A : Hp} {cs : List Value} {sv : Value} (hk : 0 < k) (h : AccS N A k cs sv) : (cs = [] ∧ sv = .slice none 0 0) ∨ ∃ b, cs ≠ [] ∧ sv = .slice (some ⟨b, 0, some k⟩) (cs.length / k) (cs.length / k) ∧ A.get b = some (.cells cs false) ∧ N ≤ b := by
  rcases h with ⟨h1, h2⟩ | ⟨b, n, h1, h2, h3, h4, h5⟩
  · exact .inl ⟨h2, h1⟩
  · refine .inr ⟨b, ?_, ?_, h2, h3⟩
    · intro h; rw [h] at h4
      have := Nat.mul_pos h5 hk
      simp at h4; omega
    · rw [h4, Nat.mul_div_cancel _ hk]; exact h1
section
variable {E : Env} {K : Nat → Option Spec}
theorem pact_of_W (hK : SpecsOk E K) {f : Nat} {rows : List (List Value)} {args : List Value} {v : Value} {out : Option (List Value)} (hfn : ∃ nt rs body, E.AP f = some (.fn nt rs body)) (hargs : args.all (okV rows.length) = true)
    (h : WF E.AP K rows.length f args (roHp rows) fun v0 A' => ∃ x0, v0 = ren (fun x => if x < rows.length then x else x0) v ∧ outOk rows.length v A' x0 out) : Pact E f rows args v out := by
  obtain ⟨m, d, v0, A', hr, x0, hv, ho⟩ := h
  exact pact_of_run hK hfn hargs hr hv ho
theorem okV1_simple {k : Nat} {v : Value} (h : simple v = true) : okV1 k v = true := by
  unfold okV1
  split
  · simp [simple] at h
  · simp [simple] at h
  · exact h
theorem map_ren1_simple {ρ : Nat → Nat} : ∀ {l : List Value}, l.all simple = true → l.map (ren1 ρ) = l
  | [], _ => rfl
  | v :: l, h => by
    simp only [List.all_cons, Bool.and_eq_true] at h
    rw [List.map_cons, ren1_simple h.1, map_ren1_simple h.2]
theorem all_okV1_simple {k : Nat} {l : List Value} (h : l.all simple = true) : l.all (okV1 k) = true :=
  List.all_eq_true.2 fun v hv => okV1_simple (List.all_eq_true.1 h v hv)
theorem pact_acc_tuple (hK : SpecsOk E K) {f k : Nat} {rows : List (List Value)} {args ps cs : List Value} (hk : 0 < k) (hfn : ∃ nt rs body, E.AP f = some (.fn nt rs body)) (hargs : args.all (okV rows.length) = true)
    (hps : ps.all simple = true) (hcs : cs.all simple = true) (h : WF E.AP K rows.length f args (roHp rows) fun v A' => ∃ sv, v = .tuple ⟨sv :: ps⟩ ∧ AccS rows.length A' k cs sv) :
    Pact E f rows args (.tuple ⟨accV rows.length k cs :: ps⟩) (accOut cs) := by
  refine pact_of_W hK hfn hargs (WF_mono h fun v A' hv => ?_)
  obtain ⟨sv, rfl, ha⟩ := hv
  rcases ha.cases hk with ⟨rfl, rfl⟩ | ⟨b, hne, rfl, hb, hN⟩
  · refine ⟨0, ?_, ?_⟩
    · simp [accV, ren, ren1]
      rw [map_ren1_simple hps]
    · simp only [accOut, if_true, outOk, okV, accV]
      simp [okV1, simple]
      exact List.all_eq_true.1 (all_okV1_simple hps)
  · refine ⟨b, ?_, ?_⟩
    · simp [accV, ren, ren1, hne]
      rw [map_ren1_simple hps]
    · simp only [accOut, if_neg hne, outOk, okV, accV]
      refine ⟨?_, hcs, ?_, hb, hN⟩
      · simp [okV1]
        exact List.all_eq_true.1 (all_okV1_simple hps)
      · simp [hasV, hasV1]
theorem pact_acc (hK : SpecsOk E K) {f k : Nat} {rows : List (List Value)} {args cs : List Value} (hk : 0 < k) (hfn : ∃ nt rs body, E.AP f = some (.fn nt rs body)) (hargs : args.all (okV rows.length) = true)
    (hcs : cs.all simple = true) (h : WF E.AP K rows.length f args (roHp rows) fun v A' => AccS rows.length A' k cs v) :
    Pact E f rows args (accV rows.length k cs) (accOut cs) := by
  refine pact_of_W hK hfn hargs (WF_mono h fun v A' ha => ?_)
  rcases ha.cases hk with ⟨rfl, rfl⟩ | ⟨b, hne, rfl, hb, hN⟩
  · refine ⟨0, ?_, ?_⟩
    · simp [accV, ren, ren1]
    · simp [accOut, outOk, okV, accV, okV1, simple]
  · refine ⟨b, ?_, ?_⟩
    · simp [accV, ren, ren1, hne]
    · simp only [accOut, if_neg hne, outOk, okV, accV]
      refine ⟨?_, hcs, ?_, hb, hN⟩
      · simp [okV1]
      · simp [hasV, hasV1]
theorem good_pact0 {f : Nat} {args args1 : List Value} {v v1 : Value} {out : Option (List Value)} (hp : Pact E f [] args v out) {A : Hp} (hr : ∀ ρ, args.map (ren ρ) = args) (ha : args1 = args) (hv : v1 = ren (fun _ => A.n) v) (g : Nat) :
    FnSound E g f args1 A v1 (outHp A out) ∧ HK g A (outHp A out) :=
  good_of_pact hp (ρ := id) (fun i r h => by simp at h) (fun r h => by cases h) (by rw [hr, ha]) (by rw [hv]; simp) (fun i hi => absurd hi (Nat.not_lt_zero _)) g
theorem good_pact1 {f x : Nat} {row args args1 : List Value} {v v1 : Value} {out : Option (List Value)} (hp : Pact E f [row] args v out) (hrow : row.all simple = true) {A : Hp} {ro : Bool} (hx : A.get x = some (.cells row ro))
    (hr : args1 = args.map (ren fun _ => x)) (hv1 : v1 = ren (fun y => if y < 1 then x else A.n) v) (hmem : args.any (hasV 0) = true) (g : Nat) : FnSound E g f args1 A v1 (outHp A out) ∧ HK g A (outHp A out) := by
  refine good_of_pact hp (ρ := fun _ => x) (fun i r hr => ?_) (fun r hr => by simp at hr; subst hr; exact hrow) hr hv1 (fun i hi lim φ w args' hrel hR => ?_) g
  · have : i = 0 := by
      rcases i with _ | i
      · rfl
      · simp at hr
    subst this
    simp at hr
    subst hr
    exact ⟨ro, hx⟩
  · have hi0 : i = 0 := by simp at hi; exact hi
    obtain ⟨u, hu, hh⟩ := List.any_eq_true.1 hmem
    obtain ⟨j, hj⟩ := List.mem_iff_getElem?.1 hu
    rw [hr] at hrel
    obtain ⟨u', hu', hrr⟩ := hrel.get (i := j) (v := ren (fun _ => x) u) (by rw [List.getElem?_map, hj]; rfl)
    exact hasV_some (ρ := fun _ => x) hh hrr
end
end Go.Ab
namespace Go.Ab.Wave
open Go Go.Ab
def pw (cl : Int) : Int := IntKind.i64.wrap (1 * 2 ^ (Min.min cl.toNat IntKind.i64.bits))
theorem pw_sh {cl : Int} (h : 0 ≤ cl) : shA true .i64 1 cl = some (J (pw cl)) := by
  unfold shA
  rw [if_neg (by omega)]
  rfl
theorem start_valid {w hh s k cell cl tlo thi : Int} {l : List (Int × Int)} (h : startErr w hh s l k cell cl tlo thi = 0) :
    ∃ W H X Y : Nat, w = W ∧ hh = H ∧ 1 ≤ W ∧ W ≤ 24 ∧ 1 ≤ H ∧ H ≤ 24 ∧ l.length = W * H ∧ (k = 1 ∨ k = 2 ∨ k = 3) ∧ cell = ((Y * W + X : Nat) : Int) ∧ X < W ∧ Y < H ∧ 1 ≤ cl ∧ cl ≤ 10 := by
  unfold startErr at h
  split at h
  · rename_i hc
    unfold checkG at hc
    split at hc
    · cases hc
    · rename_i h1
      split at hc
      · cases hc
      · rename_i h2
        simp only [not_or, Bool.not_eq_false, inB, Bool.and_eq_true, decide_eq_true_eq] at h1
        obtain ⟨⟨a1, a2⟩, ⟨b1, b2⟩, _⟩ := h1
        simp only [bne_iff_ne, ne_eq, Decidable.not_not] at h2
        unfold srcErr at h
        split at h
        · cases h
        · rename_i h3
          split at h
          · cases h
          · rename_i h4
            split at h
            · cases h
            · rename_i h5
              simp only [Bool.or_eq_true, decide_eq_true_eq, not_or] at h3 h4 h5
              obtain ⟨W, rfl⟩ : ∃ W : Nat, w = W := ⟨w.toNat, by omega⟩
              obtain ⟨H, rfl⟩ : ∃ H : Nat, hh = H := ⟨hh.toNat, by omega⟩
              obtain ⟨C, rfl⟩ : ∃ C : Nat, cell = C := ⟨cell.toNat, by omega⟩
              have hmul : W * H ≤ 24 * 24 := Nat.mul_le_mul (by omega) (by omega)
              have e : ((W * H : Nat) : Int) = (W : Int) * (H : Int) := by simp
              rw [← e, wr_id (by omega) (by omega)] at h2
              have hl : l.length = W * H := by omega
              have hC : C < W * H := by omega
              refine ⟨W, H, C % W, C / W, rfl, rfl, by omega, by omega, by omega, by omega, hl, by omega, ?_, Nat.mod_lt _ (by omega), ?_, by omega, by omega⟩
              · rw [Nat.mul_comm, Nat.div_add_mod]
              · exact Nat.div_lt_of_lt_mul hC
  · rename_i hc; exact absurd h hc
theorem far_nat {k cl : Int} (h1 : 1 ≤ cl) (h2 : cl ≤ 10) : ∃ F : Nat, farK k cl = F ∧ F ≤ 2 := by
  unfold farK
  split
  · refine ⟨(cl / 4).toNat, ?_, by omega⟩
    rw [Int.tdiv_eq_ediv_of_nonneg (by omega), wr_id (by omega) (by omega)]
    omega
  · split
    · exact ⟨1, rfl, by omega⟩
    · exact ⟨0, rfl, by omega⟩
def startCells (w h s : Int) (l : List (Int × Int)) (k cell cl tlo thi : Int) : List Value :=
  if startErr w h s l k cell cl tlo thi = 0 then nearRows w cell (farK k cl) tlo thi (riseLo k (pw cl)) (riseHi k (pw cl)) 0 l.length else []
theorem nearRows_simple {w cell f tlo thi rlo rhi : Int} : ∀ (k i : Nat), (nearRows w cell f tlo thi rlo rhi i k).all simple = true
  | 0, _ => rfl
  | k + 1, i => by
    simp only [nearRows, List.all_append, nearRows_simple k (i + 1), Bool.and_true]
    split <;> simp [rowS, J, simple]
theorem startCells_simple {w h s k cell cl tlo thi : Int} {l : List (Int × Int)} : (startCells w h s l k cell cl tlo thi).all simple = true := by
  unfold startCells
  split
  · exact nearRows_simple _ _
  · rfl
def S12 : Spec := fun _ args A =>
  match args with
  | [.agg ⟨[.int .i64 w, .int .i64 h, .int .i64 s, sl]⟩, .agg ⟨[.int .i64 k, .int .i64 c, .int .i64 cl, .int .i64 lo, .int .i64 hi]⟩] => match groundOf A sl with
    | some l => if l.length < 1000000 then some (.tuple ⟨[accV A.n 5 (startCells w h s l k c cl lo hi), J (startErr w h s l k c cl lo hi)]⟩, outHp A (accOut (startCells w h s l k c cl lo hi))) else none
    | none => none
  | _ => none
def S39 : Spec := fun _ args A =>
  match args with
  | [.agg ⟨[.int .i64 w, .int .i64 h, .int .i64 s, sl]⟩, .agg ⟨[.int .i64 k, .int .i64 c, .int .i64 cl, .int .i64 lo, .int .i64 hi]⟩] => match groundOf A sl with
    | some l => if startErr w h s l k c cl lo hi = 0 then some (accV A.n 5 (startCells w h s l k c cl lo hi), outHp A (accOut (startCells w h s l k c cl lo hi))) else none
    | none => none
  | _ => none
theorem grid_row {f : Nat} {w h s : Int} {sl : Value} {rest : List Value} {mk : Nat → Value} {out : Option (List Value)} {A : Hp} {l : List (Int × Int)} (hg : groundOf A sl = some l)
    (hrest : ∀ ρ, rest.map (ren ρ) = rest) (hmk : ∀ ρ n, ren ρ (mk n) = mk (ρ n))
    (hrun : ∀ (sl : Value) (rows : List (List Value)), groundOf (roHp rows) sl = some l → okV rows.length (gridV w h s sl) = true → Pact E f rows (gridV w h s sl :: rest) (mk rows.length) out) (g : Nat) :
    FnSound E g f (gridV w h s sl :: rest) A (mk A.n) (outHp A out) ∧ HK g A (outHp A out) := by
  obtain ⟨hlen, hc⟩ := groundOf_cases hg
  rcases hc with ⟨rfl, rfl⟩ | ⟨x, cap, ro, rfl, hx⟩
  · exact good_pact0 (hrun (.slice none 0 0) [] rfl (by simp [gridV, J, okV, okV1, simple])) (fun ρ => by rw [List.map_cons, hrest]; rfl) rfl (by rw [hmk]) g
  · have h0 : (roHp [cellsOf l]).get 0 = some (.cells (cellsOf l) true) := by rw [roHp_get]; rfl
    have hp : ∀ l : List (Int × Int), pairsOf (cellsOf l) = some l := fun l => by
      induction l with
      | nil => rfl
      | cons p l ih =>
        have e : cellsOf (p :: l) = J p.1 :: J p.2 :: cellsOf l := rfl
        rw [e]
        simp [J, pairsOf, ih]
    have hgr : groundOf (roHp [cellsOf l]) (.slice (some ⟨0, 0, some 2⟩) l.length cap) = some l := by
      simp only [groundOf, h0, hp]
      rw [if_pos ⟨trivial, hlen⟩]
    exact good_pact1 (hrun _ [cellsOf l] hgr (by simp [gridV, J, okV, okV1, simple])) (cellsOf_simple l) hx (by rw [List.map_cons, hrest]; rfl) (by rw [hmk]; simp) (by simp [gridV, hasV, hasV1]) g
theorem ren_tuple_acc {ρ : Nat → Nat} {n k : Nat} {cs ps : List Value} (hps : ps.all simple = true) : ren ρ (.tuple ⟨accV n k cs :: ps⟩) = .tuple ⟨accV (ρ n) k cs :: ps⟩ := by
  unfold accV
  split
  · simp [ren, ren1]
    exact map_ren1_simple hps
  · simp [ren, ren1]
    exact map_ren1_simple hps
theorem ren_acc {ρ : Nat → Nat} {n k : Nat} {cs : List Value} : ren ρ (accV n k cs) = accV (ρ n) k cs := by
  unfold accV
  split <;> simp [ren, ren1]
theorem srcV_ren (k c cl lo hi : Int) (ρ : Nat → Nat) : [srcV k c cl lo hi].map (ren ρ) = [srcV k c cl lo hi] := rfl
theorem S12_ok (g : Nat) (args : List Value) (A : Hp) (v : Value) (A' : Hp) (h : S12 g args A = some (v, A')) : FnSound E g 12 args A v A' ∧ HK g A A' := by
  unfold S12 at h
  split at h
  · rename_i w hh s sl k c cl lo hi
    split at h
    · rename_i l hl
      split at h
      · rename_i hlt
        cases h
        refine grid_row (mk := fun n => .tuple ⟨[accV n 5 (startCells w hh s l k c cl lo hi), J (startErr w hh s l k c cl lo hi)]⟩) (rest := [srcV k c cl lo hi]) hl (srcV_ren k c cl lo hi) (fun ρ n => ren_tuple_acc rfl) (fun sl rows hg hok => ?_) g
        refine pact_acc_tuple K12_ok (by decide) (isFn' 12 _ _ _ rfl) (by rw [List.all_cons, hok]; rfl) rfl startCells_simple ?_
        obtain ⟨sv, A1, hr, h1, h2⟩ := run12 (M := l.length + 1) (p := pw cl) (w := w) (h := hh) (s := s) (k := k) (cell := c) (cl := cl) (tlo := lo) (thi := hi) hg hlt (Nat.le_refl _) (fun he => by
          obtain ⟨W, H, X, Y, rfl, rfl, a1, a2, a3, a4, a5, a6, rfl, a7, a8, a9, a10⟩ := start_valid he
          exact ⟨by omega, a6, pw_sh (by omega)⟩)
        refine ⟨_, _, _, _, hr, sv, rfl, ?_⟩
        unfold startCells
        split
        · rename_i he; exact (h2 he).weaken (by omega)
        · rename_i he; exact .inl ⟨h1 he, rfl⟩
      · cases h
    · cases h
  · cases h
theorem S39_ok (g : Nat) (args : List Value) (A : Hp) (v : Value) (A' : Hp) (h : S39 g args A = some (v, A')) : FnSound E g 39 args A v A' ∧ HK g A A' := by
  unfold S39 at h
  split at h
  · rename_i w hh s sl k c cl lo hi
    split at h
    · rename_i l hl
      split at h
      · rename_i he
        cases h
        refine grid_row (mk := fun n => accV n 5 (startCells w hh s l k c cl lo hi)) (rest := [srcV k c cl lo hi]) hl (srcV_ren k c cl lo hi) (fun ρ n => ren_acc) (fun sl rows hg hok => ?_) g
        refine pact_acc noneK_ok (by decide) (isFn' 39 _ _ _ rfl) (by rw [List.all_cons, hok]; rfl) startCells_simple ?_
        unfold startCells
        rw [if_pos he]
        obtain ⟨W, H, X, Y, rfl, rfl, a1, a2, a3, a4, a5, a6, rfl, a7, a8, a9, a10⟩ := start_valid he
        obtain ⟨F, hF, hF2⟩ := far_nat (k := k) a9 a10
        have t1 : ((Y * W + X : Nat) : Int).tmod (W : Int) = X := tmod_cell a7
        have t2 : ((Y * W + X : Nat) : Int).tdiv (W : Int) = Y := tdiv_cell a7
        have u1 : mx2 0 (wr .i64 ((((Y * W + X : Nat) : Int)).tmod (W : Int) - farK k cl)) = ((X - F : Nat) : Int) := by
          rw [t1, hF, wr_id (by omega) (by omega)]; unfold mx2; split <;> omega
        have u2 : mx2 0 (wr .i64 (wr .i64 ((((Y * W + X : Nat) : Int)).tdiv (W : Int)) - farK k cl)) = ((Y - F : Nat) : Int) := by
          rw [t2, hF, wr_id (n := (Y : Int)) (by omega) (by omega), wr_id (by omega) (by omega)]; unfold mx2; split <;> omega
        have hmul : min H (Y + F + 1) * min W (X + F + 1) ≤ 24 * 24 := Nat.mul_le_mul (by omega) (by omega)
        have hmul2 : (min H (Y + F + 1) - (Y - F)) * (min W (X + F + 1) - (X - F)) ≤ min H (Y + F + 1) * min W (X + F + 1) := Nat.mul_le_mul (by omega) (by omega)
        obtain ⟨sv, A1, hr, hac⟩ := run39 (K := fun _ => none) (M := 100) (rows := rows) (sl := sl) (w := W) (h := H) (s := s) (k := k) (cell := ((Y * W + X : Nat) : Int)) (cl := cl) (tlo := lo) (thi := hi) (p := pw cl)
          (hi := ((min W (X + F + 1) - 1 : Nat) : Int)) (hv := ((min H (Y + F + 1) - 1 : Nat) : Int)) (c := min W (X + F + 1) - (X - F)) (d := min H (Y + F + 1) - (Y - F)) rfl (by omega) a6 (pw_sh (by omega))
          (by rw [t1, hF, wr_id (by omega) (by omega), wr_id (by omega) (by omega)]; unfold mn2; split <;> omega) (by omega) (by rw [u1]; omega)
          (by rw [t2, hF, wr_id (n := (Y : Int)) (by omega) (by omega), wr_id (by omega) (by omega), wr_id (by omega) (by omega)]; unfold mn2; split <;> omega) (by omega) (by rw [u2]; omega)
          (by omega) (by omega) (by omega)
        refine ⟨_, _, _, _, hr, ?_⟩
        rw [u1, u2] at hac
        rw [a5, hF, nearRows_all (u0 := X - F) (c := min W (X + F + 1) - (X - F)) (v0 := Y - F) (d := min H (Y + F + 1) - (Y - F)) a7 a8 (by omega) (by omega) rfl (by omega) rfl (by omega)]
        exact hac.weaken (by omega)
      · cases h
    · cases h
  · cases h
end Go.Ab.Wave
namespace Go.Ab
theorem wrId {n : Int} (h0 : -9223372036854775808 ≤ n) (h1 : n < 9223372036854775808) : wr .i64 n = n := by rw [wr_eq]; exact wrap_i64 n h0 h1
section
variable {T : List Value} {A : Hp} {a b : Int} {v x y : Value} {n : Nat}
@[simp] theorem ev_t' : ev T (.t n) = tget T n := rfl
@[simp] theorem ev_k' : ev T (.k v) = v := rfl
@[simp] theorem putA_some' : putA (some n) T v = tset T n v := rfl
@[simp] theorem putA_none' : putA none T v = T := rfl
@[simp] theorem binA_add : binA .add (.int .i64 a) (.int .i64 b) = some (.int .i64 (wr .i64 (a + b))) := rfl
@[simp] theorem binA_sub : binA .sub (.int .i64 a) (.int .i64 b) = some (.int .i64 (wr .i64 (a - b))) := rfl
@[simp] theorem binA_mul : binA .mul (.int .i64 a) (.int .i64 b) = some (.int .i64 (wr .i64 (a * b))) := rfl
theorem binA_quo (h : b ≠ 0) : binA .quo (.int .i64 a) (.int .i64 b) = some (.int .i64 (wr .i64 (a.tdiv b))) := by simp [binA, intA, kEq, h]
theorem binA_rem (h : b ≠ 0) : binA .rem (.int .i64 a) (.int .i64 b) = some (.int .i64 (a.tmod b)) := by simp [binA, intA, kEq, h]
@[simp] theorem binA_eql : binA .eql (.int .i64 a) (.int .i64 b) = some (.bool (decide (a = b))) := rfl
@[simp] theorem binA_neq : binA .neq (.int .i64 a) (.int .i64 b) = some (.bool (!decide (a = b))) := rfl
@[simp] theorem binA_lss : binA .lss (.int .i64 a) (.int .i64 b) = some (.bool (decide (a < b))) := rfl
@[simp] theorem binA_leq : binA .leq (.int .i64 a) (.int .i64 b) = some (.bool (decide (a ≤ b))) := rfl
@[simp] theorem binA_gtr : binA .gtr (.int .i64 a) (.int .i64 b) = some (.bool (decide (b < a))) := rfl
@[simp] theorem binA_geq : binA .geq (.int .i64 a) (.int .i64 b) = some (.bool (decide (b ≤ a))) := rfl
@[simp] theorem binA_shl : binA .shl (.int .i64 a) (.int .i64 b) = shA true .i64 a b := rfl
@[simp] theorem binA_shr : binA .shr (.int .i64 a) (.int .i64 b) = shA false .i64 a b := rfl
@[simp] theorem pickA_true : pickA (.bool true) x y = some x := rfl
@[simp] theorem pickA_false : pickA (.bool false) x y = some y := rfl
theorem pickA_bool {c p q : Bool} : pickA (.bool c) (.bool p) (.bool q) = some (.bool ((c && p) || (!c && q))) := by cases c <;> simp
@[simp] theorem negA_int : negA (.int .i64 a) = some (.int .i64 (wr .i64 (0 - a))) := rfl
@[simp] theorem notA_bool {c : Bool} : notA (.bool c) = some (.bool (!c)) := rfl
@[simp] theorem beqA_bool {c p q : Bool} : beqA c (.bool p) (.bool q) = some (.bool (if c then !(p == q) else p == q)) := rfl
@[simp] theorem extractA_tuple {l : List Value} : extractA n (.tuple ⟨l⟩) = l[n]? := by simp [extractA]
@[simp] theorem lenV_slice {p : _} {c : Nat} : lenV (.slice p n c) = some (.int .i64 n) := rfl
@[simp] theorem fieldAddrA_ptr {k o : Nat} : fieldAddrA n (.pointer (some ⟨k, o, none⟩)) = some (.pointer (some ⟨k, o + n, none⟩)) := rfl
@[simp] theorem fieldA_agg {l : List Value} {s : Option Nat} : fieldA n s (.agg ⟨l⟩) = partA l n s := rfl
@[simp] theorem nilCheckA_ptr {p : _} : nilCheckA (.pointer (some p)) = some (.pointer (some p)) := rfl
theorem idxSA_ok {esz k o c : Nat} {s : Nat} {i : Int} {kd : IntKind} (h0 : 0 ≤ i) (h1 : i < n) : idxSA esz (.slice (some ⟨k, o, some s⟩) n c) (.int kd i) = some (.pointer (some ⟨k, o + i.toNat * esz, none⟩)) := by simp [idxSA, h0, h1]
theorem idxAA_ok {esz k o : Nat} {i : Int} {kd : IntKind} (h0 : 0 ≤ i) (h1 : i < n) : idxAA n esz (.pointer (some ⟨k, o, none⟩)) (.int kd i) = some (.pointer (some ⟨k, o + i.toNat * esz, none⟩)) := by simp [idxAA, h0, h1]
theorem resliceA_from {b o c esz : Nat} {i : Int} (h0 : 0 ≤ i) (h1 : i ≤ n) : resliceA esz (.slice (some ⟨b, o, some esz⟩) n c) (boundA T 0 (some (.k (.int .i64 i)))) (fun m => boundA T m none) =
    some (.slice (some ⟨b, o + i.toNat * esz, some esz⟩) (n - i.toNat) (Max.max n c - i.toNat)) := by
  have e : boundA T 0 (some (.k (.int .i64 i))) = some i := rfl
  have e2 : ∀ m, boundA T m none = some (m : Int) := fun _ => rfl
  simp only [resliceA, e, e2]
  rw [if_pos ⟨trivial, h0, h1, by omega⟩]
  congr 3
  omega
def mn2 (a b : Int) : Int := if b < a then b else a
def mx2 (a b : Int) : Int := if b > a then b else a
theorem mn2_eq : mn2 a b = min a b := by unfold mn2; split <;> omega
theorem mx2_eq : mx2 a b = max a b := by unfold mx2; split <;> omega
@[simp] theorem minA_two : minA [.int .i64 a, .int .i64 b] = some (.int .i64 (min a b)) := by rw [← mn2_eq]; simp [minA, foldInt, mn2]
@[simp] theorem maxA_two' : maxA [.int .i64 a, .int .i64 b] = some (.int .i64 (max a b)) := by rw [← mx2_eq]; simp [maxA, foldInt, mx2]
def loadB (b : Option ABlk) (o : Nat) (s : Option Nat) : Option Value :=
  match b with
  | some (.cells cs _) => partA cs o s
  | _ => none
@[simp] theorem loadA_ptr {k o : Nat} {s : Option Nat} : loadA A (.pointer (some ⟨k, o, none⟩)) s = loadB (A.get k) o s := by
  unfold loadA loadB
  rfl
@[simp] theorem loadB_cells {cs : List Value} {ro : Bool} {o : Nat} {s : Option Nat} : loadB (some (.cells cs ro)) o s = partA cs o s := rfl
def cellAt (cs : List Value) (o : Nat) : Option Value := cs[o]?
@[simp] theorem partA_none {cs : List Value} {o : Nat} : partA cs o none = cellAt cs o := rfl
@[simp] theorem cellAt_zero {cs : List Value} : cellAt (v :: cs) 0 = some v := rfl
@[simp] theorem cellAt_succ {cs : List Value} {o : Nat} : cellAt (v :: cs) (o + 1) = cellAt cs o := rfl
theorem partA_all {cs : List Value} {s : Nat} (h : cs.length = s) : partA cs 0 (some s) = some (.agg ⟨cs⟩) := by subst h; simp [partA]
theorem partA_some {cs : List Value} {o s : Nat} (h : o + s ≤ cs.length) : partA cs o (some s) = some (.agg ⟨(cs.drop o).take s⟩) := by simp [partA, h]
theorem partA_cons {cs : List Value} {o s : Nat} (h : o + s ≤ (v :: cs).length) : partA (v :: cs) o (some s) = some (.agg ⟨((v :: cs).drop o).take s⟩) := partA_some h
def storeB (b : Option ABlk) (g : Nat) (A : Hp) (x o : Nat) (vs : List Value) (size : Nat) : Option (Value × Hp) :=
  match b with
  | some (.cells cs false) => if vs.length = size ∧ g ≤ x ∧ o + vs.length ≤ cs.length ∧ vs.all isCell = true then some (undef, A.set x (some (.cells (setRange cs o vs) false))) else none
  | _ => none
@[simp] theorem storeA_ptr {g k o size : Nat} : storeV (storeA g A (.pointer (some ⟨k, o, none⟩)) v size) = storeB (A.get k) g A k o v.cells.toList size := by
  unfold storeA storeB writeA storeV
  simp only
  by_cases h1 : v.cells.toList.length = size
  · rw [if_pos h1]
    by_cases h2 : g ≤ k
    · rw [if_pos h2]
      split
      · rename_i cs hc
        simp only [hc, h1, h2, true_and]
        split <;> rfl
      · rename_i hc
        split
        · rename_i cs hc'; exact absurd hc' (hc cs)
        · rfl
    · rw [if_neg h2]
      split
      · simp [h2]
      · rfl
  · rw [if_neg h1]
    split
    · rw [if_neg (fun h => h1 h.1)]; rfl
    · rfl
theorem storeB_cells {g k o size : Nat} {cs vs : List Value} (h1 : vs.length = size) (h2 : g ≤ k) (h3 : o + size ≤ cs.length) (h4 : vs.all isCell = true) :
    storeB (some (.cells cs false)) g A k o vs size = some (undef, A.set k (some (.cells (setRange cs o vs) false))) := by
  subst h1; simp only [storeB]; rw [if_pos ⟨trivial, h2, h3, h4⟩]
@[simp] theorem zeros_one {z : List Value} : zeros 1 z = z := by
  unfold zeros
  rw [Nat.one_mul]
  apply List.ext_getElem?
  intro i
  by_cases h : i < z.length
  · simp [h, Nat.mod_eq_of_lt h]
  · simp [h]
def ints (l : List Int) : List Value := l.map (.int .i64)
@[simp] theorem ints_length (l : List Int) : (ints l).length = l.length := List.length_map ..
def gi (l : List Int) (o : Nat) : Int := l.getD o 0
theorem gi_eq {l : List Int} {o : Nat} (h : o < l.length) : gi l o = l[o] := by simp [gi, h]
theorem ints_get' {l : List Int} {o : Nat} (h : o < l.length) : (ints l)[o]? = some (.int .i64 (gi l o)) := by simp [ints, gi, h]
theorem ints_get {l : List Int} {o : Nat} (h : o < l.length) : cellAt (ints l) o = some (.int .i64 (gi l o)) := ints_get' h
theorem ints_two {l : List Int} {o : Nat} (h : o + 2 ≤ l.length) : partA (ints l) o (some 2) = some (.agg ⟨[.int .i64 (gi l o), .int .i64 (gi l (o + 1))]⟩) := by
  have h0 : o < l.length := by omega
  have h1 : o + 1 < l.length := by omega
  rw [partA_some (by rw [ints_length]; exact h)]
  have e : (ints l).drop o = .int .i64 l[o] :: .int .i64 l[o + 1] :: (ints l).drop (o + 2) := by
    simp only [ints, ← List.map_drop]
    rw [List.drop_eq_getElem_cons h0, List.drop_eq_getElem_cons h1]
    rfl
  rw [e]
  simp [gi_eq h0, gi_eq h1]
def cellsFrom (l : List Int) (o : Nat) : Nat → List Value
  | 0 => []
  | s + 1 => cellsFrom l o s ++ [.int .i64 (gi l (o + s))]
theorem ints_part {l : List Int} {o : Nat} : ∀ {s : Nat}, o + s ≤ l.length → partA (ints l) o (some s) = some (.agg ⟨cellsFrom l o s⟩) := by
  intro s h
  rw [partA_some (by rw [ints_length]; exact h)]
  have e : ∀ s, o + s ≤ l.length → ((ints l).drop o).take s = cellsFrom l o s := by
    intro s
    induction s with
    | zero => intro _; rfl
    | succ s ih =>
      intro h
      have hs : o + s < l.length := by omega
      rw [List.take_add_one, ih (by omega), cellsFrom, List.getElem?_drop, ints_get' hs]
      rfl
  rw [e s h]
theorem ints_5 {l : List Int} {o : Nat} (h : o + 5 ≤ l.length) : partA (ints l) o (some 5) = some (.agg ⟨[.int .i64 (gi l o), .int .i64 (gi l (o + 1)), .int .i64 (gi l (o + 2)), .int .i64 (gi l (o + 3)), .int .i64 (gi l (o + 4))]⟩) := by
  rw [ints_part h]; rfl
theorem ints_8 {l : List Int} {o : Nat} (h : o + 8 ≤ l.length) : partA (ints l) o (some 8) = some (.agg ⟨[.int .i64 (gi l o), .int .i64 (gi l (o + 1)), .int .i64 (gi l (o + 2)), .int .i64 (gi l (o + 3)), .int .i64 (gi l (o + 4)), .int .i64 (gi l (o + 5)), .int .i64 (gi l (o + 6)), .int .i64 (gi l (o + 7))]⟩) := by
  rw [ints_part h]; rfl
theorem ints_simple (l : List Int) : (ints l).all simple = true := by
  induction l with
  | nil => rfl
  | cons x l ih => simp [ints] at ih ⊢; exact ⟨rfl, ih⟩
theorem ints_isCell (l : List Int) : (ints l).all isCell = true := by
  induction l with
  | nil => rfl
  | cons x l ih => simp [ints] at ih ⊢; exact ⟨rfl, ih⟩
theorem ints_append (a b : List Int) : ints (a ++ b) = ints a ++ ints b := List.map_append ..
theorem setRange_all {cs vs : List Value} (h : cs.length = vs.length) : setRange cs 0 vs = vs := by simp [setRange, h]
theorem eqv2 {c : Bool} {a' b' : Int} : eqvA c [false, false] (.agg ⟨[.int .i64 a, .int .i64 b]⟩) (.agg ⟨[.int .i64 a', .int .i64 b']⟩) = some (.bool (if c then !(decide (a = a') && decide (b = b')) else decide (a = a') && decide (b = b'))) := by
  cases c <;> simp [eqvA, eqCells, cellEq, kEq] <;> rfl
end
theorem AccS.someOf {A : Hp} {N k i n : Nat} {cs : List Value} {sv : Value} (h : AccS N A k cs sv) (hl : cs.length = n * k) (hi : i < n) (hk : 0 < k) : ∃ b, sv = .slice (some ⟨b, 0, some k⟩) n n ∧ A.get b = some (.cells cs false) := by
  rcases h with ⟨h1, h2⟩ | ⟨b, m, h1, h2, h3, h4, h5⟩
  · subst h2
    have := Nat.mul_pos (show 0 < n by omega) hk
    simp at hl; omega
  · have : m = n := Nat.eq_of_mul_eq_mul_right hk (h4.symm.trans hl)
    subst this
    exact ⟨b, h1, h2⟩
theorem AccS.isSlice {A : Hp} {N k : Nat} {cs : List Value} {sv : Value} (h : AccS N A k cs sv) : ∃ p n c, sv = .slice p n c := by
  rcases h with ⟨rfl, _⟩ | ⟨b, n, rfl, _⟩
  · exact ⟨_, _, _, rfl⟩
  · exact ⟨_, _, _, rfl⟩
theorem AccS.lenI {A : Hp} {N k n : Nat} {cs : List Value} {sv : Value} (h : AccS N A k cs sv) (hl : cs.length = n * k) (hk : 0 < k) : Go.Ab.lenV sv = some (.int .i64 n) := by
  obtain ⟨m, h1, h2⟩ := h.len
  have : m = n := Nat.eq_of_mul_eq_mul_right hk (h2.symm.trans hl)
  rw [h1, this]
def RdS (A : Hp) (k n : Nat) (cs : List Value) (sv : Value) : Prop :=
  cs.length = n * k ∧ ((sv = .slice none 0 0 ∧ n = 0) ∨ ∃ b c ro, sv = .slice (some ⟨b, 0, some k⟩) n c ∧ A.get b = some (.cells cs ro))
theorem RdS.mono {A A' : Hp} {k n : Nat} {cs : List Value} {sv : Value} (h : RdS A k n cs sv) (hA : ∀ x, x < A.n → A'.get x = A.get x) : RdS A' k n cs sv := by
  obtain ⟨h0, h | ⟨b, c, ro, h1, h2⟩⟩ := h
  · exact ⟨h0, .inl h⟩
  · exact ⟨h0, .inr ⟨b, c, ro, h1, by rw [hA b (Hp.lt_of_get h2)]; exact h2⟩⟩
theorem RdS.push {A : Hp} {k n : Nat} {cs : List Value} {sv : Value} {x : ABlk} (h : RdS A k n cs sv) : RdS (A.push x) k n cs sv := h.mono fun x hx => by rw [Hp.get_push, if_neg (by omega)]
theorem RdS.len {A : Hp} {k n : Nat} {cs : List Value} {sv : Value} (h : RdS A k n cs sv) : lenV sv = some (.int .i64 n) := by
  obtain ⟨_, ⟨rfl, rfl⟩ | ⟨b, c, ro, rfl, _⟩⟩ := h <;> rfl
theorem RdS.at {A : Hp} {k n i : Nat} {cs : List Value} {sv : Value} (h : RdS A k n cs sv) (hi : i < n) : ∃ b c ro, sv = .slice (some ⟨b, 0, some k⟩) n c ∧ A.get b = some (.cells cs ro) := by
  obtain ⟨_, ⟨_, h0⟩ | h⟩ := h
  · omega
  · exact h
theorem AccS.rd {A : Hp} {N k n : Nat} {cs : List Value} {sv : Value} (h : AccS N A k cs sv) (hl : cs.length = n * k) (hk : 0 < k) : RdS A k n cs sv := by
  refine ⟨hl, ?_⟩
  rcases Nat.eq_zero_or_pos n with h0 | h0
  · subst h0
    rcases h with ⟨h1, _⟩ | ⟨b, m, h1, h2, h3, h4, h5⟩
    · exact .inl ⟨h1, rfl⟩
    · have := Nat.mul_pos h5 hk
      omega
  · obtain ⟨b, h1, h2⟩ := h.someOf hl h0 hk
    exact .inr ⟨b, n, false, h1, h2⟩
theorem AccS.add {N g : Nat} {A : Hp} {esz bytes n : Nat} {cs new : List Value} {ro : Bool} {sv : Value} (h : AccS N A esz cs sv) (hg : g ≤ N) (hN : N ≤ A.n) (hnew : new.length = esz) (hesz : 0 < esz) (hcell : new.all isCell = true) (hl : cs.length = n * esz)
    (hroom : (n + 1) * bytes ≤ room ∧ n + 1 ≤ room) : ∃ sv' A', appendA g (A.push (.cells new ro)) esz bytes sv (.slice (some ⟨A.n, 0, some esz⟩) 1 1) = some (sv', A') ∧ AccS N A' esz (cs ++ new) sv' ∧ (∀ z, z < N → A'.get z = A.get z) ∧ A.n ≤ A'.n := by
  obtain ⟨sv', A', h1, h2, h3, h4⟩ := append_acc (A := A.push (.cells new ro)) (y := A.n) (h.mono fun x hx => by rw [Hp.get_push, if_neg (by omega)]) hg (by simp; omega) (by rw [Hp.get_push, if_pos rfl]) hnew hesz hcell hl hroom
  exact ⟨sv', A', h1, h2, fun z hz => by rw [h3 z hz, Hp.get_push, if_neg (by omega)], by rw [h4]; simp; omega⟩
section
variable {A : Hp} {b c : ABlk} {x y : Nat}
theorem get_push_eq (h : x ≤ A.n ∧ A.n ≤ x) : (A.push b).get x = some b := by rw [show x = A.n by omega]; exact get_push_new
@[simp] theorem set_push_new {b' : ABlk} : (A.push b).set A.n (some b') = A.push b' := by
  unfold Hp.push Hp.set; simp
theorem set_push_old {b' : Option ABlk} (h : x < A.n) : (A.push b).set x b' = (A.set x b').push b := by
  unfold Hp.push Hp.set
  simp only [Nat.add_sub_cancel]
  rw [show A.n - x = (A.n - 1 - x) + 1 by omega, List.set_cons_succ]
theorem push2_old {A : Hp} {b c : ABlk} {x : Nat} (h : x < A.n) : ((A.push b).push c).get x = A.get x := by rw [get_push_old (by simp; omega), get_push_old h]
theorem push3_old {A : Hp} {b c d : ABlk} {x : Nat} (h : x < A.n) : (((A.push b).push c).push d).get x = A.get x := by rw [get_push_old (by simp; omega), push2_old h]
theorem push4_old {A : Hp} {b c d e : ABlk} {x : Nat} (h : x < A.n) : ((((A.push b).push c).push d).push e).get x = A.get x := by rw [get_push_old (by simp; omega), push3_old h]
theorem push2_a {A : Hp} {b c : ABlk} : ((A.push b).push c).get A.n = some b := by rw [get_push_old (by simp), get_push_new]
theorem push2_b {A : Hp} {b c : ABlk} : ((A.push b).push c).get (A.n + 1) = some c := by rw [get_push_eq (by simp)]
theorem push3_a {A : Hp} {b c d : ABlk} : (((A.push b).push c).push d).get A.n = some b := by rw [get_push_old (by simp; omega), push2_a]
theorem push3_b {A : Hp} {b c d : ABlk} : (((A.push b).push c).push d).get (A.n + 1) = some c := by rw [get_push_old (by simp), push2_b]
theorem push3_c {A : Hp} {b c d : ABlk} : (((A.push b).push c).push d).get (A.n + 2) = some d := by rw [get_push_eq (by simp)]
theorem push2_n {A : Hp} {b c : ABlk} : ((A.push b).push c).n = A.n + 2 := rfl
theorem push3_n {A : Hp} {b c d : ABlk} : (((A.push b).push c).push d).n = A.n + 3 := rfl
end
theorem hDs : (∀ (A : Hp) (b : ABlk), (A.push b).n = A.n + 1) ∧ (∀ (A : Hp) (x : Nat) (b : Option ABlk), (A.set x b).n = A.n) ∧ (∀ (a : Value) (l : List Value), (a :: l).length = l.length + 1) ∧ (([] : List Value).length = 0) ∧ (∀ l : List Int, (ints l).length = l.length) ∧ (∀ (l m : List Value), (l ++ m).length = l.length + m.length) ∧ (∀ (a : Int) (l : List Int), (a :: l).length = l.length + 1) ∧ (([] : List Int).length = 0) ∧ (∀ (l m : List Int), (l ++ m).length = l.length + m.length) := by
  refine ⟨fun _ _ => rfl, fun _ _ _ => rfl, fun _ _ => rfl, rfl, ints_length, fun _ _ => List.length_append, fun _ _ => rfl, rfl, fun _ _ => List.length_append⟩
theorem hRs : (∀ {A : Hp} {b : ABlk} {x : Nat}, (x ≤ A.n ∧ A.n ≤ x) → (A.push b).get x = some b) ∧ (∀ {A : Hp} {b : ABlk} {x : Nat}, x < A.n → (A.push b).get x = A.get x) ∧ (∀ {A : Hp} {b : ABlk} {x : Nat} {b' : Option ABlk}, x < A.n → (A.push b).set x b' = (A.set x b').push b) ∧
    (∀ {cs : List Value} {s : Nat}, cs.length = s → partA cs 0 (some s) = some (.agg ⟨cs⟩)) ∧ (∀ {v : Value} {cs : List Value} {o s : Nat}, o + s ≤ (v :: cs).length → partA (v :: cs) o (some s) = some (.agg ⟨((v :: cs).drop o).take s⟩)) :=
  ⟨get_push_eq, get_push_old, set_push_old, partA_all, partA_cons⟩
end Go.Ab
