/- WaveDry: the law's walk. -/
import Derived.Test.YtmmpjfknmdlpoaaZ11
import Derived.Test.YtmmpjfknmdlpoaaZ12
import Derived.Test.YtmmpjfknmdlpoaaZ13
import Derived.Test.YtmmpjfknmdlpoaaZ09
import Derived.Test.YtmmpjfknmdlpoaaZ10
import Derived.ProofKit
import Derived.OpenShut
import Derived.Below
import Derived.Deep.Slices
set_option linter.unusedSimpArgs false
set_option linter.unusedVariables false
set_option linter.unusedSectionVars false
set_option maxRecDepth 100000
namespace Go.Ab.Wave
open Go Go.Ab
def K3 : Nat → Option Spec := tableK [(37, [mCheck]), (45, [mSpread1, mSpread2, mSpread3])]
theorem K3_ok : SpecsOk E K3 := tableK_ok (by
  intro p hp
  simp only [List.mem_cons, List.not_mem_nil, or_false] at hp
  rcases hp with rfl | rfl
  · exact ⟨isFn 37 (by kernel_rfl), fun M hM => by simp only [List.mem_singleton] at hM; subst hM; exact mCheck_ok⟩
  · refine ⟨isFn 45 (by kernel_rfl), fun M hM => ?_⟩
    simp only [List.mem_cons, List.not_mem_nil, or_false] at hM
    rcases hM with rfl | rfl | rfl
    · exact mSpread1_ok
    · exact mSpread2_ok
    · exact mSpread3_ok)
def mWorks : Memo := ⟨[], [], .bool true, none⟩
theorem mWorks_run : mWorks.check E.AP K3 300 40 10 = true := by kernel_rfl
theorem mWorks_ok : mWorks.Ok E 10 := Memo.ok_of_check K3_ok (isFn 10 (by kernel_rfl)) (by kernel_rfl) mWorks_run
end Go.Ab.Wave
namespace Go.Ab.Wave
open Go Go.Ab
def KL : Nat → Option Spec := fun f => match f with
  | 10 => some (memoSpec [mWorks]) | 12 => some S12 | 13 => some S13 | 14 => some S14 | 15 => some S13 | 37 => some S37 | 38 => some S38 | 39 => some S39 | 40 => some S37 | 41 => some S38 | 42 => some S42 | 43 => some S42 | 110 => some S110
  | _ => none
section
variable {A : Hp} {sl : Value} {w h s k c cl lo hi : Int} {l : List (Int × Int)} {g : Nat} {V : Value → Hp → Prop}
theorem accV_acc {N k : Nat} {cs : List Value} (hk : 0 < k) (hd : k ∣ cs.length) (hN : N ≤ A.n) : AccS N (outHp A (accOut cs)) k cs (accV A.n k cs) := by
  unfold accOut accV
  split
  · rename_i he; subst he; exact .inl ⟨rfl, rfl⟩
  · rename_i hne
    have hp : 0 < cs.length := List.length_pos_iff.2 hne
    obtain ⟨n, hn⟩ := hd
    refine .inr ⟨A.n, cs.length / k, rfl, get_push_new, hN, (Nat.div_mul_cancel ⟨n, hn⟩).symm, Nat.div_pos ?_ hk⟩
    exact Nat.le_of_dvd hp ⟨n, hn⟩
theorem outHp_old {cs : List Value} {x : Nat} (hx : x < A.n) : (outHp A (accOut cs)).get x = A.get x := by
  unfold accOut
  split
  · rfl
  · exact get_push_old hx
theorem outHp_n {cs : List Value} : A.n ≤ (outHp A (accOut cs)).n := by
  unfold accOut
  split
  · exact Nat.le_refl _
  · exact Nat.le_succ _
theorem nearRows_five {w cell f tlo thi rlo rhi : Int} : ∀ (k i : Nat), 5 ∣ (nearRows w cell f tlo thi rlo rhi i k).length
  | 0, _ => ⟨0, rfl⟩
  | k + 1, i => by
    obtain ⟨n, hn⟩ := nearRows_five (w := w) (cell := cell) (f := f) (tlo := tlo) (thi := thi) (rlo := rlo) (rhi := rhi) k (i + 1)
    simp only [nearRows, List.length_append, hn]
    split
    · exact ⟨n + 1, by simp [rowS]; omega⟩
    · exact ⟨n, by simp⟩
theorem startCells_five : 5 ∣ (startCells w h s l k c cl lo hi).length := by
  unfold startCells
  split
  · exact nearRows_five _ _
  · exact ⟨0, rfl⟩
theorem S39_eq (hl : groundOf A sl = some l) (he : startErr w h s l k c cl lo hi = 0) : S39 g [.agg ⟨[.int .i64 w, .int .i64 h, .int .i64 s, sl]⟩, .agg ⟨[.int .i64 k, .int .i64 c, .int .i64 cl, .int .i64 lo, .int .i64 hi]⟩] A =
    some (accV A.n 5 (startCells w h s l k c cl lo hi), outHp A (accOut (startCells w h s l k c cl lo hi))) := by simp [S39, hl, he]
theorem w11 (hl : groundOf A sl = some l) (hQ : ∀ sv A', A.n ≤ A'.n → (∀ x, x < A.n → A'.get x = A.get x) → AccS A.n A' 5 (startCells w h s l k c cl lo hi) sv → V (.tuple ⟨[sv, .int .i64 (startErr w h s l k c cl lo hi)]⟩) A') :
    WF AP KL g 11 [gridV w h s sl, srcV k c cl lo hi] A V := by
  have hl1 : groundOf ((A.push (.cells [.int .i64 w, .int .i64 h, .int .i64 s, sl] false)).push (.cells [.int .i64 k, .int .i64 c, .int .i64 cl, .int .i64 lo, .int .i64 hi] false)) sl = some l :=
    groundOf_mono hl (fun x hx => by rw [get_push_old (by simp; omega), get_push_old hx])
  rw [WF_body rfl (show AP 11 = some F11 from rfl)]
  by_cases h1 : checkG w h s l = 0
  · by_cases h2 : srcErr l.length k c cl lo hi = 0
    · have he : startErr w h s l k c cl lo hi = 0 := by simp [startErr, h1, h2]
      simp (disch := as_aux_lemma => first | omega | simp only [hDs] <;> omega | simp [isCell]) [hRs, takeMarks, resA, resAll, resOne, Value.cells, gridV, srcV, J, WF_spec (show KL 37 = some S37 from rfl), S37_eq hl1, WF_spec (show KL 38 = some S38 from rfl), S38_eq hl1, WF_spec (show KL 39 = some S39 from rfl), S39_eq hl1 he, h1, h2]
      rw [he] at hQ
      refine hQ _ _ (Nat.le_trans ?_ outHp_n) (fun x hx => ?_) (accV_acc (by decide) startCells_five ?_)
      · simp; omega
      · rw [outHp_old (by simp; omega), get_push_old (by simp; omega), get_push_old hx]
      · simp; omega
    · have he : startErr w h s l k c cl lo hi = srcErr l.length k c cl lo hi := by simp [startErr, h1]
      simp (disch := as_aux_lemma => first | omega | simp only [hDs] <;> omega | simp [isCell]) [hRs, takeMarks, resA, resAll, resOne, Value.cells, gridV, srcV, J, WF_spec (show KL 37 = some S37 from rfl), S37_eq hl1, WF_spec (show KL 38 = some S38 from rfl), S38_eq hl1, h1, h2]
      rw [he] at hQ
      refine hQ _ _ ?_ (fun x hx => ?_) (.inl ⟨rfl, ?_⟩)
      · simp; omega
      · rw [get_push_old (by simp; omega), get_push_old hx]
      · unfold startCells; rw [if_neg (by rw [he]; exact h2)]
  · have he : startErr w h s l k c cl lo hi = checkG w h s l := by simp [startErr, h1]
    simp (disch := as_aux_lemma => first | omega | simp only [hDs] <;> omega | simp [isCell]) [hRs, takeMarks, resA, resAll, resOne, Value.cells, gridV, srcV, J, WF_spec (show KL 37 = some S37 from rfl), S37_eq hl1, h1]
    rw [he] at hQ
    refine hQ _ _ ?_ (fun x hx => ?_) (.inl ⟨rfl, ?_⟩)
    · simp; omega
    · rw [get_push_old (by simp; omega), get_push_old hx]
    · unfold startCells; rw [if_neg (by rw [he]; exact h1)]
end
end Go.Ab.Wave
namespace Go.Ab.Wave
open Go Go.Ab
section
variable {A : Hp} {sl : Value} {w h s k c cl lo hi : Int} {l : List (Int × Int)} {g : Nat} {V : Value → Hp → Prop}
theorem groundOf_push {b : ABlk} (h : groundOf A sl = some l) : groundOf (A.push b) sl = some l := groundOf_mono h fun x hx => get_push_old hx
theorem loop2 {zs : List Int} {n N M : Nat} {sa sb : Value} {D : List Nat} {rd : Option Nat} {Q : Ex → St → Prop} (ha : AccS N A 5 (ints zs) sa) (hb : AccS M A 5 (ints zs) sb) (hz : zs.length = n * 5) (hn : n < 1000000) (hQ : ∀ T', Q (.exit 0) ⟨T', D, A⟩) :
    ∀ (k i : Nat) (T : List Value), i + k = n → tget T 7 = sa → tget T 9 = sb → tget T 11 = .int .i64 i → W AP KL g rd (.loop body2) ⟨T, D, A⟩ Q := by
  have hla := ha.lenI (n := n) (by simpa using hz) (by decide)
  intro k
  induction k with
  | zero =>
    intro i T hi h7 h9 h11
    rw [W_loop]
    simp (disch := as_aux_lemma => first | omega | simp only [hDs] <;> omega | simp [isCell]) [hRs, takeMarks, resA, resAll, resOne, Value.cells, body2, h7, h9, h11, hla, show ¬ ((i : Int) < n) by omega, hQ]
  | succ k ih =>
    intro i T hi h7 h9 h11
    obtain ⟨x, rfl, hx⟩ := ha.someOf (i := i) (n := n) (by simpa using hz) (by omega) (by decide)
    obtain ⟨y, rfl, hy⟩ := hb.someOf (i := i) (n := n) (by simpa using hz) (by omega) (by decide)
    rw [W_loop]
    simp (disch := as_aux_lemma => first | omega | simp only [hDs] <;> omega | simp [isCell]) [hRs, takeMarks, resA, resAll, resOne, Value.cells, body2, h7, h9, h11, show ((i : Int) < n) by omega, show i < n by omega, idxSA_ok, hx, hy, ints_get, ints_two, eqv2]
    refine ih (i + 1) _ (by omega) ?_ ?_ ?_
    · simp [h7]
    · simp [h9]
    · simp [wrId (n := (i : Int) + 1) (by omega) (by omega)]
theorem nearRows_ints {w cell f tlo thi rlo rhi : Int} : ∀ (k i : Nat), ∃ zs, nearRows w cell f tlo thi rlo rhi i k = ints zs ∧ zs.length ≤ k * 5
  | 0, _ => ⟨[], rfl, by simp⟩
  | k + 1, i => by
    obtain ⟨zs, hz, hl⟩ := nearRows_ints (w := w) (cell := cell) (f := f) (tlo := tlo) (thi := thi) (rlo := rlo) (rhi := rhi) k (i + 1)
    simp only [nearRows, hz]
    split
    · exact ⟨i :: tlo :: thi :: rlo :: rhi :: zs, rfl, by simp; omega⟩
    · exact ⟨zs, rfl, by omega⟩
theorem startCells_ints : ∃ zs n, startCells w h s l k c cl lo hi = ints zs ∧ zs.length = n * 5 ∧ n ≤ l.length := by
  obtain ⟨n, hn⟩ := startCells_five (w := w) (h := h) (s := s) (k := k) (c := c) (cl := cl) (lo := lo) (hi := hi) (l := l)
  unfold startCells at hn ⊢
  split
  · rename_i he
    obtain ⟨zs, hz, hl⟩ := nearRows_ints (w := w) (cell := c) (f := farK k cl) (tlo := lo) (thi := hi) (rlo := riseLo k (pw cl)) (rhi := riseHi k (pw cl)) l.length 0
    rw [if_pos he, hz, ints_length] at hn
    exact ⟨zs, n, hz, by omega, by omega⟩
  · exact ⟨[], 0, rfl, rfl, by omega⟩
theorem S12_eq (hl : groundOf A sl = some l) (hn : l.length < 1000000) : S12 g [.agg ⟨[.int .i64 w, .int .i64 h, .int .i64 s, sl]⟩, .agg ⟨[.int .i64 k, .int .i64 c, .int .i64 cl, .int .i64 lo, .int .i64 hi]⟩] A =
    some (.tuple ⟨[accV A.n 5 (startCells w h s l k c cl lo hi), .int .i64 (startErr w h s l k c cl lo hi)]⟩, outHp A (accOut (startCells w h s l k c cl lo hi))) := by simp [S12, hl, hn, J]
theorem S13_eq {a b c d e f : Int} : S13 g [.agg ⟨[.int .i64 a, .int .i64 b, .int .i64 c, .int .i64 d, .int .i64 e, .int .i64 f]⟩] A = some (.int .i64 (checkM a b c d e f), A) := rfl
theorem S14_eq {a b c d e f : Int} : S14 g [.agg ⟨[.int .i64 a, .int .i64 b, .int .i64 c, .int .i64 d, .int .i64 e, .int .i64 f]⟩] A = some (.agg ⟨[.int .i64 a, .int .i64 b, .int .i64 c, .int .i64 d, .int .i64 e, .int .i64 f]⟩, A) := rfl
theorem works_eq : memoSpec [mWorks] g [] A = some (.bool true, A) := rfl
def modelV (a b c d e f : Int) : Value := .agg ⟨[.int .i64 a, .int .i64 b, .int .i64 c, .int .i64 d, .int .i64 e, .int .i64 f]⟩
theorem w2 {ma mb mc md me mf : Int} (hl : groundOf A sl = some l) (hQ : ∀ A', V (.bool true) A') : WF AP KL g 2 [modelV ma mb mc md me mf, gridV w h s sl, srcV k c cl lo hi] A V := by
  have hlen : lenV sl = some (.int .i64 l.length) := by
    rcases (groundOf_cases hl).2 with ⟨rfl, rfl⟩ | ⟨x, cap, ro, rfl, _⟩
    · rfl
    · rfl
  rw [WF_body rfl (show AP 2 = some F2 from rfl)]
  by_cases h6 : l.length ≤ 600
  · simp (disch := as_aux_lemma => first | omega | simp only [hDs] <;> omega | simp [isCell]) [hRs, takeMarks, resA, resAll, resOne, Value.cells, modelV, gridV, srcV, J, hlen, show ¬ ((600 : Int) < l.length) by omega]
    refine w11 (groundOf_push (groundOf_push (groundOf_push hl))) fun sv A' hn hold hacc => ?_
    have hl' : groundOf A' sl = some l := groundOf_mono (groundOf_push (groundOf_push (groundOf_push hl))) hold
    have g0 := hold A.n (by simp; omega)
    have g1 := hold (A.n + 1) (by simp)
    have g2 := hold (A.n + 2) (by simp)
    simp (disch := as_aux_lemma => first | omega | simp only [hDs] <;> omega | simp [isCell]) [hRs, takeMarks, resA, resAll, resOne, Value.cells] at g0 g1 g2 hn
    obtain ⟨zs, n, hz, hzl, hnl⟩ := startCells_ints (w := w) (h := h) (s := s) (k := k) (c := c) (cl := cl) (lo := lo) (hi := hi) (l := l)
    have ha : AccS 0 (outHp A' (accOut (startCells w h s l k c cl lo hi))) 5 (ints zs) sv := by rw [hz] at hacc ⊢; exact (hacc.mono fun x hx => outHp_old hx).weaken (Nat.zero_le _)
    have hb : AccS 0 (outHp A' (accOut (startCells w h s l k c cl lo hi))) 5 (ints zs) (accV A'.n 5 (startCells w h s l k c cl lo hi)) := by rw [hz]; exact accV_acc (by decide) ⟨n, by rw [ints_length]; omega⟩ (Nat.zero_le _)
    have la := ha.lenI (n := n) (by rw [ints_length]; omega) (by decide)
    have lb := hb.lenI (n := n) (by rw [ints_length]; omega) (by decide)
    have g3 : (outHp A' (accOut (startCells w h s l k c cl lo hi))).get A.n = _ := (outHp_old (by omega)).trans g0
    simp (disch := as_aux_lemma => first | omega | simp only [hDs] <;> omega | simp [isCell]) [hRs, takeMarks, resA, resAll, resOne, Value.cells, g0, g1, g2, g3, WF_spec (show KL 12 = some S12 from rfl), S12_eq hl' (show l.length < 1000000 by omega), WF_spec (show KL 13 = some S13 from rfl), WF_spec (show KL 14 = some S14 from rfl), WF_spec (show KL 15 = some S13 from rfl), S13_eq, S14_eq, la, lb]
    refine loop2 ha hb hzl (by omega) (fun T' => ?_) n 0 _ (by omega) ?_ ?_ ?_
    · simp (disch := as_aux_lemma => first | omega | simp only [hDs] <;> omega | simp [isCell]) [hRs, takeMarks, resA, resAll, resOne, Value.cells, WF_spec (show KL 10 = some (memoSpec [mWorks]) from rfl), works_eq, hQ]
    · simp
    · simp
    · simp
  · simp (disch := as_aux_lemma => first | omega | simp only [hDs] <;> omega | simp [isCell]) [hRs, takeMarks, resA, resAll, resOne, Value.cells, modelV, gridV, srcV, J, hlen, show ((600 : Int) < l.length) by omega, WF_spec (show KL 10 = some (memoSpec [mWorks]) from rfl), works_eq, hQ]
end
end Go.Ab.Wave
namespace Go.Ab
open Go
inductive Ty where
  | int (k : IntKind)
  | bool
  | str
  | unit
  | pair (a b : Ty)
  | slice (e : Ty)
def Ty.size : Ty → Nat
  | .unit => 0
  | .pair a b => a.size + b.size
  | _ => 1
def Ty.plain : Ty → Bool
  | .slice _ => false
  | .pair a b => a.plain && b.plain
  | _ => true
def Ty.rep : Nat → Ty → Ty
  | 0, _ => .unit
  | n + 1, e => .pair e (rep n e)
def fieldsTy (rec : TypeId → Option Ty) (P : Program) : Nat → List Field → Option Ty
  | _, [] => some .unit
  | off, f :: fs => match rec f.type with
    | some tf => if f.offset = off ∧ tf.size = P.cellsOf f.type then (fieldsTy rec P (off + tf.size) fs).map fun r => .pair tf r else none
    | none => none
def tyOf (P : Program) : Nat → TypeId → Option Ty
  | 0, _ => none
  | fuel + 1, t => match P.underlying t with
    | some .bool => some .bool
    | some (.int k) => some (.int k)
    | some .string => some .str
    | some (.slice e) => match tyOf P fuel e with
      | some te => if te.size = P.cellsOf e ∧ te.plain = true ∧ 0 < te.size then some (.slice te) else none
      | none => none
    | some (.struct fs) => match fieldsTy (tyOf P fuel) P 0 fs.toList with
      | some ty => if ty.size = P.cellsOf t then some ty else none
      | none => none
    | some (.array n e) => match tyOf P fuel e with
      | some te => if te.size = P.cellsOf e ∧ n * te.size = P.cellsOf t then some (.rep n te) else none
      | none => none
    | _ => none
theorem Ty.rep_plain {e : Ty} : ∀ {n}, 0 < n → (Ty.rep n e).plain = true → e.plain = true
  | n + 1, _, h => by simp only [Ty.rep, Ty.plain, Bool.and_eq_true] at h; exact h.1
def Sh (rows : List (List Value)) : Ty → List Value → Prop
  | .int k, cs => ∃ n, cs = [.int k n] ∧ (Lit.int k n).wf = true
  | .bool, cs => ∃ b, cs = [.bool b]
  | .str, cs => ∃ s : ByteArray, cs = [.string s] ∧ s.size ≤ maxLen
  | .unit, cs => cs = []
  | .pair a b, cs => ∃ l r, cs = l ++ r ∧ Sh rows a l ∧ Sh rows b r
  | .slice e, cs => cs = [.slice none 0 0] ∨ ∃ x n c row, cs = [.slice (some ⟨x, 0, some e.size⟩) n c] ∧ n ≤ maxLen ∧ rows[x]? = some row ∧ row.length = n * e.size ∧ row.all simple = true ∧
      ∃ f : Nat → List Value, row = (List.range n).flatMap f ∧ ∀ i, i < n → Sh rows e (f i) ∧ (f i).length = e.size
theorem Sh.mono {rows rows' : List (List Value)} (h : ∀ (i : Nat) r, rows[i]? = some r → rows'[i]? = some r) : ∀ {t : Ty} {cs : List Value}, Sh rows t cs → Sh rows' t cs
  | .int _, _, hs => hs
  | .bool, _, hs => hs
  | .str, _, hs => hs
  | .unit, _, hs => hs
  | .pair a b, cs, ⟨l, r, h1, h2, h3⟩ => ⟨l, r, h1, Sh.mono h h2, Sh.mono h h3⟩
  | .slice e, cs, hs => by
    rcases hs with hs | ⟨x, n, c, row, h1, h2, h3, h4, h5, f, h6, h7⟩
    · exact .inl hs
    · exact .inr ⟨x, n, c, row, h1, h2, h _ _ h3, h4, h5, f, h6, fun i hi => ⟨Sh.mono h (h7 i hi).1, (h7 i hi).2⟩⟩
theorem Sh.length {rows : List (List Value)} : ∀ {t : Ty} {cs : List Value}, Sh rows t cs → cs.length = t.size
  | .int _, _, ⟨_, h, _⟩ => by rw [h]; rfl
  | .bool, _, ⟨_, h⟩ => by rw [h]; rfl
  | .str, _, ⟨_, h, _⟩ => by rw [h]; rfl
  | .unit, _, h => by rw [show _ = [] from h]; rfl
  | .pair a b, _, ⟨l, r, h1, h2, h3⟩ => by rw [h1, List.length_append, Sh.length h2, Sh.length h3]; rfl
  | .slice e, _, hs => by
    rcases hs with hs | ⟨x, n, c, row, h1, _⟩
    · rw [hs]; rfl
    · rw [h1]; rfl
theorem Sh.simple {rows : List (List Value)} : ∀ {t : Ty} {cs : List Value}, t.plain = true → Sh rows t cs → cs.all simple = true
  | .int _, _, _, ⟨_, h, _⟩ => by rw [h]; rfl
  | .bool, _, _, ⟨_, h⟩ => by rw [h]; rfl
  | .str, _, _, ⟨_, h, _⟩ => by rw [h]; rfl
  | .unit, _, _, h => by rw [show _ = [] from h]; rfl
  | .pair a b, _, hp, ⟨l, r, h1, h2, h3⟩ => by
    simp only [Ty.plain, Bool.and_eq_true] at hp
    rw [h1, List.all_append, Sh.simple hp.1 h2, Sh.simple hp.2 h3]; rfl
  | .slice e, _, hp, _ => by simp [Ty.plain] at hp
theorem sh_rep {rows : List (List Value)} {e : Ty} : ∀ {n : Nat} {cs : List Value}, cs.length = n * e.size → (∀ i, i < n → Sh rows e ((cs.drop (i * e.size)).take e.size)) → Sh rows (.rep n e) cs
  | 0, cs, hl, _ => List.eq_nil_of_length_eq_zero (by simpa using hl)
  | n + 1, cs, hl, h => by
    have hm : (n + 1) * e.size = n * e.size + e.size := Nat.succ_mul n e.size
    refine ⟨cs.take e.size, cs.drop e.size, (List.take_append_drop _ _).symm, by simpa using h 0 (by omega), sh_rep (by rw [List.length_drop]; omega) fun i hi => ?_⟩
    have := h (i + 1) (by omega)
    rwa [Nat.succ_mul, Nat.add_comm (i * e.size), ← List.drop_drop] at this
section
variable {H : Type} {enc : TypeId × Value → H} {E : Env} {w : World}
def Leads (w : World) (v : Value) : Prop := ∀ a n q, v = .slice (some a) n q → a.spot = none ∧ ∃ c el fr, w.heap[a.block]? = some (.cells c el fr)
structure Good (E : Env) (w : World) (rows : List (List Value)) (φ : NM) : Prop where
  dom : ∀ x, rows.length ≤ x → φ x = none
  row : ∀ i r, rows[i]? = some r → ∃ e, φ i = some e ∧ e.blk < w.heap.size ∧ RelB E φ w (.cells r true) e
  plain : ∀ r ∈ rows, r.all simple = true
def More (rows rows' : List (List Value)) : Prop := ∀ (i : Nat) r, rows[i]? = some r → rows'[i]? = some r
theorem More.refl (rows : List (List Value)) : More rows rows := fun _ _ h => h
theorem More.trans {a b c : List (List Value)} (h : More a b) (h' : More b c) : More a c := fun i r hr => h' i r (h i r hr)
theorem plain_cells : ∀ (F : Nat) (ty : Ty) (t : TypeId) (cs : List Value) (fuel : Nat) (x : DataW H × List MemPlace), tyOf E.P F t = some ty → ty.plain = true → DataW.trod enc E.P w 0 (fun _ => true) true fuel t cs = some x → Sh [] ty cs := by
  intro F
  induction F with
  | zero => intro ty t cs fuel x h; cases h
  | succ F ih =>
    have hf : ∀ (fs : List Field) (off : Nat) (ty : Ty) (cs : List Value) (n : Nat) (xs : List (DataW H × List MemPlace)), fieldsTy (tyOf E.P F) E.P off fs = some ty → ty.plain = true → cs.length = off + ty.size →
        (∀ (i : Nat) (f : Field), fs[i]? = some f → ∃ y, DataW.trod enc E.P w 0 (fun _ => true) true n f.type ((cs.drop f.offset).take (E.P.cellsOf f.type)) = some y) → Sh [] ty (cs.drop off) := by
      intro fs
      induction fs with
      | nil =>
        intro off ty cs n xs h1 h2 h3 h4
        cases h1
        exact List.drop_eq_nil_of_le (by simp [Ty.size] at h3; omega)
      | cons f fs ihf =>
        intro off ty cs n xs h1 h2 h3 h4
        simp only [fieldsTy] at h1
        split at h1
        · rename_i tf htf
          split at h1
          · rename_i hc
            rw [Option.map_eq_some_iff] at h1
            obtain ⟨r, hr, rfl⟩ := h1
            simp only [Ty.plain, Bool.and_eq_true] at h2
            obtain ⟨y, hy⟩ := h4 0 f rfl
            have k1 := ih tf f.type _ n y htf h2.1 hy
            have k2 := ihf (off + tf.size) r cs n xs hr h2.2 (by simp only [Ty.size] at h3; omega) fun i g hg => h4 (i + 1) g (by simpa using hg)
            refine ⟨_, _, ?_, k1, k2⟩
            rw [hc.1, ← hc.2, ← List.drop_drop, List.take_append_drop]
          · cases h1
        · cases h1
    intro ty t cs fuel x h hp hx
    simp only [tyOf] at h
    split at h
    · rename_i ht; cases h; obtain ⟨b, rfl, _⟩ := DataW.trod_bool ht hx; exact ⟨b, rfl⟩
    · rename_i k ht; cases h; obtain ⟨n, rfl, _, hw⟩ := DataW.trod_int ht hx; exact ⟨n, rfl, hw⟩
    · rename_i ht; cases h; obtain ⟨s, rfl, _, hs⟩ := DataW.trod_string ht hx; exact ⟨s, rfl, hs⟩
    · split at h
      · split at h
        · cases h; simp [Ty.plain] at hp
        · cases h
      · cases h
    · rename_i fs ht
      split at h
      · rename_i ty' hty
        split at h
        · rename_i hsz
          cases h
          obtain ⟨xs, n, _, _, hl, hxl, hget⟩ := DataW.trod_struct ht hx
          have := hf fs.toList 0 ty cs n xs hty hp (by rw [hl, hsz, Nat.zero_add]) fun i f hi => by
            have hi' : fs[i]? = some f := by simpa using hi
            have hlt : i < xs.length := by rw [hxl]; exact (Array.getElem?_eq_some_iff.1 hi').1
            exact ⟨xs[i], by rw [hget i f hi', List.getElem?_eq_getElem hlt]⟩
          simpa using this
        · cases h
      · cases h
    · rename_i n e ht
      split at h
      · rename_i te hte
        split at h
        · rename_i hsz
          cases h
          obtain ⟨xs, m, _, _, hl, hxl, hget⟩ := DataW.trod_array ht hx
          refine sh_rep (by rw [hl, hsz.2]) fun i hi => ?_
          rw [hsz.1]
          refine ih te e _ m xs[i] hte (Ty.rep_plain (by omega) hp) ?_
          rw [hget i hi, List.getElem?_eq_getElem]
        · cases h
      · cases h
    · cases h
theorem flat_at {n k : Nat} {f : Nat → List Value} (hf : ∀ q, q < n → (f q).length = k) : ∀ {i : Nat} {v : Value}, ((List.range n).flatMap f)[i]? = some v → ∃ q r, q < n ∧ r < k ∧ i = q * k + r ∧ (f q)[r]? = some v := by
  induction n with
  | zero => intro i v h; simp at h
  | succ n ih =>
    intro i v h
    have hlen : ((List.range n).flatMap f).length = n * k := by
      have : ∀ m, m ≤ n → ((List.range m).flatMap f).length = m * k := by
        intro m
        induction m with
        | zero => intro _; simp
        | succ m ihm => intro hm; rw [List.range_succ, List.flatMap_append, List.length_append, ihm (by omega), Nat.succ_mul]; simp [hf m (by omega)]
      exact this n (Nat.le_refl _)
    rw [List.range_succ, List.flatMap_append] at h
    by_cases hi : i < n * k
    · rw [List.getElem?_append_left (by rw [hlen]; exact hi)] at h
      obtain ⟨q, r, h1, h2, h3, h4⟩ := ih (fun q hq => hf q (by omega)) h
      exact ⟨q, r, by omega, h2, h3, h4⟩
    · rw [List.getElem?_append_right (by rw [hlen]; omega), hlen] at h
      have h' : (f n)[i - n * k]? = some v := by simpa using h
      have hlt := (List.getElem?_eq_some_iff.1 h').1
      rw [hf n (by omega)] at hlt
      exact ⟨n, i - n * k, by omega, hlt, by omega, h'⟩
theorem flat_len {n k : Nat} {f : Nat → List Value} (hf : ∀ q, q < n → (f q).length = k) : ((List.range n).flatMap f).length = n * k := by
  induction n with
  | zero => simp
  | succ n ih => rw [List.range_succ, List.flatMap_append, List.length_append, ih fun q hq => hf q (by omega), Nat.succ_mul]; simp [hf n (by omega)]
theorem cell_add {a : Addr} {c : Array Value} {el : TypeId} {fr : Nat × Nat} (hs : a.spot = none) (hb : w.heap[a.block]? = some (.cells c el fr)) (j : Nat) : w.cell? (a.add j) = c[a.off + j]? := by
  obtain ⟨b, off, spot⟩ := a
  subst hs
  unfold Addr.add World.cell?
  by_cases hj : j = 0
  · subst hj; simp at hb ⊢; simp [hb]
  · simp [hj] at hb ⊢; simp [hb]
theorem Good.push {rows : List (List Value)} {φ : NM} (h : Good E w rows φ) {r : List Value} {e : Ent} (hr : r.all simple = true) (hb : e.blk < w.heap.size) (hB : ∀ φ', RelB E φ' w (.cells r true) e) :
    Good E w (rows ++ [r]) (fun x => if x = rows.length then some e else φ x) ∧ Ext φ (fun x => if x = rows.length then some e else φ x) ∧ More rows (rows ++ [r]) := by
  have hext : Ext φ (fun x => if x = rows.length then some e else φ x) := fun x ex hx => by
    by_cases h' : x = rows.length
    · subst h'; rw [h.dom _ (Nat.le_refl _)] at hx; cases hx
    · simp only [if_neg h']; exact hx
  refine ⟨⟨fun x hx => ?_, fun i r' hr' => ?_, fun r' hr' => ?_⟩, hext, fun i r' hr' => ?_⟩
  · simp at hx
    simp only [if_neg (show ¬ x = rows.length by omega)]
    exact h.dom x (by omega)
  · by_cases hi : i < rows.length
    · rw [List.getElem?_append_left hi] at hr'
      obtain ⟨ex, h1, h2, h3⟩ := h.row i r' hr'
      exact ⟨ex, hext i ex h1, h2, h3.mono hext rfl⟩
    · rw [List.getElem?_append_right (by omega)] at hr'
      have : i = rows.length := by
        rcases Nat.eq_or_lt_of_le (Nat.le_of_not_lt hi) with h' | h'
        · exact h'.symm
        · rw [List.getElem?_eq_none (by simp; omega)] at hr'; cases hr'
      subst this
      simp at hr'
      subst hr'
      exact ⟨e, by simp, hb, hB _⟩
  · rcases List.mem_append.1 hr' with h' | h'
    · exact h.plain r' h'
    · simp at h'; subst h'; exact hr
  · have := (List.getElem?_eq_some_iff.1 hr').1
    rw [List.getElem?_append_left this]; exact hr'
theorem slice_cells {F : Nat} {te : Ty} {t e : TypeId} {cs : List Value} {fuel : Nat} {x : DataW H × List MemPlace} (ht : E.P.underlying t = some (.slice e)) (hte : tyOf E.P F e = some te) (hsz : te.size = E.P.cellsOf e) (hp : te.plain = true) (h0 : 0 < te.size)
    (hx : DataW.trod enc E.P w 0 (fun _ => true) true fuel t cs = some x) (hl : ∀ v ∈ cs, Leads w v) {rows : List (List Value)} {φ : NM} (hg : Good E w rows φ) :
    ∃ rows' φ' ac, More rows rows' ∧ Ext φ φ' ∧ Good E w rows' φ' ∧ RelL E.lab φ' ac cs ∧ Sh rows' (.slice te) ac := by
  rcases Go.Deep.open_slice ht hx with ⟨rfl, _⟩ | ⟨a, len, cap, m, n, D, Pl, rfl, _, hlen, hcap, hm, _, hel⟩
  · exact ⟨rows, φ, [.slice none 0 0], More.refl _, Ext.refl _, hg, RelL.cons .nilSlice RelL.nil, .inl rfl⟩
  · simp only [if_true] at hm
    subst hm
    obtain ⟨hs, c, el, fr, hb⟩ := hl _ (List.mem_singleton.2 rfl) a len m rfl
    obtain ⟨f, hf⟩ := Go.Deep.choose_lt (α := List Value) (p := fun i cs' => E.P.cellsOf e = cs'.length ∧ (∀ j, j < cs'.length → c[a.off + (i * te.size + j)]? = cs'[j]?) ∧ Sh [] te cs') (n := m) fun i hi => by
      obtain ⟨cs', h1, h2⟩ := hel i hi
      obtain ⟨_, h4, h5⟩ := World.cells?_some h1
      refine ⟨cs', h4.symm, fun j hj => ?_, plain_cells F te e cs' n _ hte hp h2⟩
      rw [← h5 j (by omega), Go.Deep.add_add, cell_add hs hb, hsz]
    have hfl : ∀ q, q < len → (f q).length = te.size := fun q hq => by rw [hsz]; exact (hf q (by omega)).1.symm
    have hrl : ((List.range len).flatMap f).length = len * te.size := flat_len hfl
    have hsimple : ((List.range len).flatMap f).all simple = true := by
      rw [List.all_eq_true]
      intro v hv
      obtain ⟨q, hq, hv⟩ := List.mem_flatMap.1 hv
      exact List.all_eq_true.1 (Sh.simple hp (hf q (by simp at hq; omega)).2.2) v hv
    have hsize : m = 0 ∨ a.off + m * te.size ≤ c.size := by
      rcases Nat.eq_zero_or_pos m with h | h
      · exact .inl h
      · right
        obtain ⟨h1, h2, h3⟩ := hf (m - 1) (by omega)
        have h4 := h2 (te.size - 1) (by omega)
        rw [List.getElem?_eq_getElem (by omega)] at h4
        have := (Array.getElem?_eq_some_iff.1 h4).1
        have e1 : (m - 1) * te.size + te.size = m * te.size := by rw [← Nat.succ_mul]; congr 1; omega
        omega
    have hlt : len * te.size ≤ m * te.size := Nat.mul_le_mul_right _ hlen
    have hbl : a.block < w.heap.size := (Array.getElem?_eq_some_iff.1 hb).1
    obtain ⟨g1, g2, g3⟩ := hg.push (r := (List.range len).flatMap f) (e := ⟨a.block, if m = 0 then 0 else a.off, c.size⟩) hsimple hbl (fun φ' => by
      refine ⟨c, el, fr, hb, rfl, ?_, fun h => (by cases h), ?_⟩
      · by_cases hz : m = 0
        · subst hz; simp [show len = 0 by omega]
        · simp only [if_neg hz]; rw [hrl]; rcases hsize with h | h
          · exact absurd h hz
          · omega
      · intro i v hv
        obtain ⟨q, r, h1, h2, h3, h4⟩ := flat_at hfl hv
        by_cases hz : m = 0
        · omega
        · simp only [if_neg hz]
          obtain ⟨k1, k2, k3⟩ := hf q (by omega)
          refine ⟨v, ?_, relV_simple (List.all_eq_true.1 (Sh.simple hp k3) v (List.mem_of_getElem? h4))⟩
          rw [h3, k2 r (by omega), h4])
    refine ⟨_, _, [.slice (some ⟨rows.length, 0, some te.size⟩) len len], g3, g2, g1, RelL.cons ?_ RelL.nil, .inr ⟨rows.length, len, len, (List.range len).flatMap f, rfl, by omega, by simp, hrl, hsimple, f, rfl, fun i hi => ⟨Sh.mono (fun i r h => by simp at h) (hf i (by omega)).2.2, hfl i hi⟩⟩⟩
    have he : a = ⟨a.block, a.off, none⟩ := by cases a; simp at hs; subst hs; rfl
    rw [he]
    refine RelV.slice (e := ⟨a.block, if m = 0 then 0 else a.off, c.size⟩) (by simp) hlen hlen ?_
    by_cases hz : m = 0
    · exact .inl hz
    · simp only [if_neg hz]
      rcases hsize with h | h
      · exact absurd h hz
      · exact .inr ⟨by omega, h⟩
theorem abs_cells : ∀ (F : Nat) (ty : Ty) (t : TypeId) (cs : List Value) (fuel : Nat) (x : DataW H × List MemPlace), tyOf E.P F t = some ty → DataW.trod enc E.P w 0 (fun _ => true) true fuel t cs = some x → (∀ v ∈ cs, Leads w v) →
    ∀ (rows : List (List Value)) (φ : NM), Good E w rows φ → ∃ rows' φ' ac, More rows rows' ∧ Ext φ φ' ∧ Good E w rows' φ' ∧ RelL E.lab φ' ac cs ∧ Sh rows' ty ac := by
  intro F
  induction F with
  | zero => intro ty t cs fuel x h; cases h
  | succ F ih =>
    have hf : ∀ (fs : List Field) (off : Nat) (ty : Ty) (cs : List Value) (n : Nat), fieldsTy (tyOf E.P F) E.P off fs = some ty → cs.length = off + ty.size → (∀ v ∈ cs, Leads w v) →
        (∀ (i : Nat) (f : Field), fs[i]? = some f → ∃ y, DataW.trod enc E.P w 0 (fun _ => true) true n f.type ((cs.drop f.offset).take (E.P.cellsOf f.type)) = some y) →
        ∀ (rows : List (List Value)) (φ : NM), Good E w rows φ → ∃ rows' φ' ac, More rows rows' ∧ Ext φ φ' ∧ Good E w rows' φ' ∧ RelL E.lab φ' ac (cs.drop off) ∧ Sh rows' ty ac := by
      intro fs
      induction fs with
      | nil =>
        intro off ty cs n h1 h3 hl h4 rows φ hg
        cases h1
        refine ⟨rows, φ, [], More.refl _, Ext.refl _, hg, ?_, rfl⟩
        rw [List.drop_eq_nil_of_le (by simp [Ty.size] at h3; omega)]
        exact RelL.nil
      | cons f fs ihf =>
        intro off ty cs n h1 h3 hl h4 rows φ hg
        simp only [fieldsTy] at h1
        split at h1
        · rename_i tf htf
          split at h1
          · rename_i hc
            rw [Option.map_eq_some_iff] at h1
            obtain ⟨r, hr, rfl⟩ := h1
            obtain ⟨y, hy⟩ := h4 0 f rfl
            obtain ⟨rows1, φ1, ac1, a1, a2, a3, a4, a5⟩ := ih tf f.type _ n y htf hy (fun v hv => hl v (List.mem_of_mem_drop (List.mem_of_mem_take hv))) rows φ hg
            obtain ⟨rows2, φ2, ac2, b1, b2, b3, b4, b5⟩ := ihf (off + tf.size) r cs n hr (by simp only [Ty.size] at h3; omega) hl (fun i g hg => h4 (i + 1) g (by simpa using hg)) rows1 φ1 a3
            refine ⟨rows2, φ2, ac1 ++ ac2, a1.trans b1, a2.trans b2, b3, ?_, ac1, ac2, rfl, a5.mono b1, b5⟩
            have := (a4.mono b2).append b4
            rwa [hc.1, ← hc.2, ← List.drop_drop, List.take_append_drop] at this
          · cases h1
        · cases h1
    have ha : ∀ (te : Ty) (e : TypeId) (fuel : Nat), tyOf E.P F e = some te → ∀ (n : Nat) (cs : List Value), cs.length = n * te.size → (∀ v ∈ cs, Leads w v) →
        (∀ i, i < n → ∃ y, DataW.trod enc E.P w 0 (fun _ => true) true fuel e ((cs.drop (i * te.size)).take te.size) = some y) →
        ∀ (rows : List (List Value)) (φ : NM), Good E w rows φ → ∃ rows' φ' ac, More rows rows' ∧ Ext φ φ' ∧ Good E w rows' φ' ∧ RelL E.lab φ' ac cs ∧ Sh rows' (.rep n te) ac := by
      intro te e fuel hte n
      induction n with
      | zero =>
        intro cs hl _ _ rows φ hg
        rw [show cs = [] from List.eq_nil_of_length_eq_zero (by simpa using hl)]
        exact ⟨rows, φ, [], More.refl _, Ext.refl _, hg, RelL.nil, rfl⟩
      | succ n ihn =>
        intro cs hl hld h4 rows φ hg
        have hm : (n + 1) * te.size = n * te.size + te.size := Nat.succ_mul n te.size
        obtain ⟨y, hy⟩ := h4 0 (by omega)
        simp only [Nat.zero_mul, List.drop_zero] at hy
        obtain ⟨rows1, φ1, ac1, a1, a2, a3, a4, a5⟩ := ih te e _ fuel y hte hy (fun v hv => hld v (List.mem_of_mem_take hv)) rows φ hg
        obtain ⟨rows2, φ2, ac2, b1, b2, b3, b4, b5⟩ := ihn (cs.drop te.size) (by rw [List.length_drop]; omega) (fun v hv => hld v (List.mem_of_mem_drop hv)) (fun i hi => by
          obtain ⟨z, hz⟩ := h4 (i + 1) (by omega)
          rw [Nat.succ_mul, Nat.add_comm (i * te.size), ← List.drop_drop] at hz
          exact ⟨z, hz⟩) rows1 φ1 a3
        refine ⟨rows2, φ2, ac1 ++ ac2, a1.trans b1, a2.trans b2, b3, ?_, ac1, ac2, rfl, a5.mono b1, b5⟩
        have := (a4.mono b2).append b4
        rwa [List.take_append_drop] at this
    intro ty t cs fuel x h hx hl rows φ hg
    have plain : ∀ {s : Ty}, s.plain = true → Sh rows s cs → ∃ rows' φ' ac, More rows rows' ∧ Ext φ φ' ∧ Good E w rows' φ' ∧ RelL E.lab φ' ac cs ∧ Sh rows' s ac :=
      fun hp hs => ⟨rows, φ, cs, More.refl _, Ext.refl _, hg, relL_simple (Sh.simple hp hs), hs⟩
    simp only [tyOf] at h
    split at h
    · rename_i ht; cases h; obtain ⟨b, rfl, _⟩ := DataW.trod_bool ht hx; exact plain rfl ⟨b, rfl⟩
    · rename_i k ht; cases h; obtain ⟨n, rfl, _, hw⟩ := DataW.trod_int ht hx; exact plain rfl ⟨n, rfl, hw⟩
    · rename_i ht; cases h; obtain ⟨s, rfl, _, hs⟩ := DataW.trod_string ht hx; exact plain rfl ⟨s, rfl, hs⟩
    · rename_i e ht
      split at h
      · rename_i te hte
        split at h
        · rename_i hc
          cases h
          exact slice_cells ht hte hc.1 hc.2.1 hc.2.2 hx hl hg
        · cases h
      · cases h
    · rename_i fs ht
      split at h
      · rename_i ty' hty
        split at h
        · rename_i hsz
          cases h
          obtain ⟨xs, n, _, _, hln, hxl, hget⟩ := DataW.trod_struct ht hx
          have := hf fs.toList 0 ty cs n hty (by rw [hln, hsz, Nat.zero_add]) hl (fun i f hi => by
            have hi' : fs[i]? = some f := by simpa using hi
            have hlt : i < xs.length := by rw [hxl]; exact (Array.getElem?_eq_some_iff.1 hi').1
            exact ⟨xs[i], by rw [hget i f hi', List.getElem?_eq_getElem hlt]⟩) rows φ hg
          simpa using this
        · cases h
      · cases h
    · rename_i n e ht
      split at h
      · rename_i te hte
        split at h
        · rename_i hsz
          cases h
          obtain ⟨xs, m, _, _, hln, hxl, hget⟩ := DataW.trod_array ht hx
          exact ha te e m hte n cs (by rw [hln, hsz.2]) hl (fun i hi => ⟨xs[i], by rw [hsz.1, hget i hi, List.getElem?_eq_getElem]⟩) rows φ hg
        · cases h
      · cases h
    · cases h
def Ty.one : Ty → Bool
  | .unit => false
  | .pair _ _ => false
  | _ => true
def mkV (t : Ty) (ac : List Value) : Value := if t.one then ac.headD undef else .agg ac.toArray
theorem leads_of_cell {P : Program} {r : Reach} {base : Nat} {u : TypeId} {v : Value} (h : Cell.okWide P w r base u v) : Leads w v := by
  intro a n q hv
  subst hv
  have h2 : Cell.ok P w r base u (.slice (some a) n q) := by
    unfold Cell.okWide at h
    split at h <;> simp_all
  unfold Cell.ok at h2
  generalize P.underlying u = o at h2
  cases o with
  | none => exact h2.elim
  | some d =>
    cases d with
    | slice e =>
      obtain ⟨_, _, _, hs, row, cells, hsh, _⟩ := h2
      refine ⟨hs, ?_⟩
      unfold World.shape? at hsh
      split at hsh
      · rename_i c el fr hc; exact ⟨c, el, fr, hc⟩
      · cases hsh
    | _ => exact h2.elim
theorem fieldsTy_one {rec : TypeId → Option Ty} {P : Program} : ∀ {off : Nat} {fs : List Field} {ty : Ty}, fieldsTy rec P off fs = some ty → ty.one = false
  | _, [], _, h => by cases h; rfl
  | off, f :: fs, ty, h => by
    simp only [fieldsTy] at h
    split at h
    · split at h
      · rw [Option.map_eq_some_iff] at h
        obtain ⟨r, _, rfl⟩ := h
        rfl
      · cases h
    · cases h
theorem rep_one {e : Ty} : ∀ {n : Nat}, (Ty.rep n e).one = false
  | 0 => rfl
  | _ + 1 => rfl
theorem one_of_ty {P : Program} {F : Nat} {ty : Ty} {t : TypeId} {v : Value} {r : Reach} {base : Nat} (hty : tyOf P F t = some ty) (hval : Value.okWide P w r base t v) : (ty.one = false ∧ ∃ cs, v = .agg cs ∧ Row.okWide P w r base t cs) ∨ (ty.one = true ∧ v.cells = #[v] ∧ Cell.okWide P w r base t v) := by
  cases F with
  | zero => cases hty
  | succ F =>
    unfold Value.okWide at hval
    simp only [tyOf] at hty
    split at hty
    · rename_i ht; cases hty; rw [ht] at hval; right
      refine ⟨rfl, ?_, hval⟩
      cases v <;> simp [Cell.okWide, Cell.ok, ht, Value.cells] at hval ⊢
    · rename_i ht; cases hty; rw [ht] at hval; right
      refine ⟨rfl, ?_, hval⟩
      cases v <;> simp [Cell.okWide, Cell.ok, ht, Value.cells] at hval ⊢
    · rename_i ht; cases hty; rw [ht] at hval; right
      refine ⟨rfl, ?_, hval⟩
      cases v <;> simp [Cell.okWide, Cell.ok, ht, Value.cells] at hval ⊢
    · rename_i ht
      rw [ht] at hval
      split at hty
      · split at hty
        · cases hty; right
          refine ⟨rfl, ?_, hval⟩
          cases v <;> simp [Cell.okWide, Cell.ok, ht, Value.cells] at hval ⊢
        · cases hty
      · cases hty
    · rename_i ht
      rw [ht] at hval
      obtain ⟨cs, rfl, _, hr⟩ := hval
      split at hty
      · rename_i ty' hty'
        split at hty
        · cases hty; exact .inl ⟨fieldsTy_one hty', cs, rfl, hr⟩
        · cases hty
      · cases hty
    · rename_i ht
      rw [ht] at hval
      obtain ⟨cs, rfl, _, hr⟩ := hval
      split at hty
      · split at hty
        · cases hty; exact .inl ⟨rep_one, cs, rfl, hr⟩
        · cases hty
      · cases hty
    · cases hty
theorem abs_arg {F : Nat} {ty : Ty} {t : TypeId} {v : Value} {d : DataW H} {ps : List MemPlace} {r : Reach} {base : Nat} (hty : tyOf E.P F t = some ty) (hval : Value.okWide E.P w r base t v) (h : DataW.Trod enc E.P w 0 (fun _ => true) true t v d ps)
    {rows : List (List Value)} {φ : NM} (hg : Good E w rows φ) : ∃ rows' φ' ac, More rows rows' ∧ Ext φ φ' ∧ Good E w rows' φ' ∧ RelV E.lab φ' (mkV ty ac) v ∧ Sh rows' ty ac := by
  obtain ⟨fuel, hx⟩ := h
  have hone := one_of_ty hty hval
  have hl : ∀ u ∈ v.cells.toList, Leads w u := by
    rcases hone with ⟨_, cs, rfl, ts, _, _, hr⟩ | ⟨_, hc, hv⟩
    · intro u hu
      obtain ⟨i, hi⟩ := List.mem_iff_getElem?.1 hu
      obtain ⟨u', _, hu'⟩ := hr i u (by simpa [Value.cells] using hi)
      exact leads_of_cell hu'
    · intro u hu
      rw [hc] at hu
      simp at hu
      subst hu
      exact leads_of_cell hv
  obtain ⟨rows', φ', ac, h1, h2, h3, h4, h5⟩ := abs_cells F ty t _ fuel _ hty hx hl rows φ hg
  refine ⟨rows', φ', ac, h1, h2, h3, ?_, h5⟩
  unfold mkV
  rcases hone with ⟨ho, cs, rfl, _⟩ | ⟨ho, hc, _⟩
  · rw [if_neg (by simp [ho])]
    exact RelL.agg (by simpa [Value.cells] using h4)
  · rw [if_pos ho]
    rw [hc] at h4
    cases ac with
    | nil => have := h4.1; simp at this
    | cons u us => exact h4.2 0 u v rfl rfl
theorem Good.start : Good E w [] fun _ => none := ⟨fun _ _ => rfl, fun i r h => by simp at h, fun r h => by cases h⟩
theorem Good.rel {rows : List (List Value)} {φ : NM} (h : Good E w rows φ) (lim : Nat) : Rel E lim φ (roHp rows) w := by
  refine ⟨fun x e hx => ?_, fun x e hx => ?_, fun x b e hb hx => ?_, fun x y b c ex ey _ hb _ _ _ hrw => ?_⟩
  · rcases Nat.lt_or_ge x rows.length with h' | h'
    · exact .inl h'
    · rw [h.dom x h'] at hx; cases hx
  · rcases Nat.lt_or_ge x rows.length with h' | h'
    · obtain ⟨e', he', hlt, _⟩ := h.row x rows[x] (List.getElem?_eq_getElem h')
      rw [hx] at he'; cases he'; exact hlt
    · rw [h.dom x h'] at hx; cases hx
  · rw [roHp_get, Option.map_eq_some_iff] at hb
    obtain ⟨r, hr, rfl⟩ := hb
    obtain ⟨e', he', _, hB⟩ := h.row x r hr
    rw [hx] at he'; cases he'; exact hB
  · rw [roHp_get, Option.map_eq_some_iff] at hb
    obtain ⟨r, hr, rfl⟩ := hb
    cases hrw
theorem law_calls {K : Nat → Option Spec} (hK : SpecsOk E K) {rows : List (List Value)} {φ : NM} {f : Nat} {f' : FuncId} {args args' : List Value} (hg : Good E w rows φ) (hlab : E.lab f' = f) (hfn : ∃ nt rs body, E.AP f = some (.fn nt rs body)) (hrel : RelL E.lab φ args args')
    (h : WF E.AP K rows.length f args (roHp rows) fun v _ => v = .bool true) : Calls E.P f' args'.toArray w fun e w' => e = .returned (.bool true) ∧ Go.RowKit.Below w.heap.size w w' := by
  obtain ⟨m, d, v, A', hr, rfl⟩ := h
  have hs := callA_sound hK hr hfn A'.n φ w f' args' (Nat.le_refl _) hlab hrel (hg.rel _)
  refine (hs.mono ?_).calls (fun k => ?_)
  · rintro e w' ⟨v', φ', rfl, hv, hP⟩
    cases hv
    refine ⟨rfl, hP.env.1, hP.env.2.2, hP.env.2.1, hP.size, fun b hb => hP.frame b hb fun x e hx _ => ?_⟩
    rcases Nat.lt_or_ge x rows.length with h' | h'
    · exact .inl h'
    · rw [hg.dom x h'] at hx; cases hx
  · intro d hd; cases hd
end
end Go.Ab
set_option maxRecDepth 100000
namespace Go.Ab.Wave
open Go Go.Ab Go.Proofs
theorem KL_ok : SpecsOk E KL := by
  intro h S hS
  unfold KL at hS
  split at hS
  · cases hS; exact ⟨isFn' 10 _ _ _ rfl, fun g args A v A' hr => memoSpec_sound (by intro M hM; simp only [List.mem_singleton] at hM; subst hM; exact mWorks_ok) hr⟩
  · cases hS; exact ⟨isFn' 12 _ _ _ rfl, S12_ok⟩
  · cases hS; exact ⟨isFn' 13 _ _ _ rfl, S13_ok13⟩
  · cases hS; exact ⟨isFn' 14 _ _ _ rfl, S14_ok⟩
  · cases hS; exact ⟨isFn' 15 _ _ _ rfl, S13_ok15⟩
  · cases hS; exact ⟨isFn' 37 _ _ _ rfl, S37_ok⟩
  · cases hS; exact ⟨isFn' 38 _ _ _ rfl, S38_ok38⟩
  · cases hS; exact ⟨isFn' 39 _ _ _ rfl, S39_ok⟩
  · cases hS; exact ⟨isFn' 40 _ _ _ rfl, S40_ok⟩
  · cases hS; exact ⟨isFn' 41 _ _ _ rfl, S38_ok41⟩
  · cases hS; exact ⟨isFn' 42 _ _ _ rfl, S42_ok42⟩
  · cases hS; exact ⟨isFn' 43 _ _ _ rfl, S42_ok43⟩
  · cases hS; exact ⟨isFn' 110 _ _ _ rfl, S110_ok⟩
  · cases hS
theorem own : ownKnob Try.prog.godebug = none := by kernel_rfl
theorem laidOut : laidOutB Try.prog = true := by kernel_rfl
end Go.Ab.Wave
namespace Go.Ab
open Go
theorem RdS.more {rows rows' : List (List Value)} {k n : Nat} {cs : List Value} {sl : Value} (h : RdS (roHp rows) k n cs sl) (hm : More rows rows') : RdS (roHp rows') k n cs sl := by
  obtain ⟨h0, h | ⟨b, c, ro, h1, h2⟩⟩ := h
  · exact ⟨h0, .inl h⟩
  · refine ⟨h0, .inr ⟨b, c, ro, h1, ?_⟩⟩
    rw [roHp_get, Option.map_eq_some_iff] at h2
    obtain ⟨r, hr, e⟩ := h2
    rw [roHp_get, hm b r hr]
    exact congrArg some e
end Go.Ab
namespace Go.Ab
open Ieee
theorem double_binade : double.binade = 4503599627370496 := by decide
theorem double_inf : double.infRung = 9218868437227405312 := by decide
theorem double_sign : double.signWeight = 9223372036854775808 := by decide
theorem double_least : double.leastPlace = -1074 := by decide
theorem shiftOne (d : Nat) : 1 <<< d = 2 ^ d := by rw [Nat.shiftLeft_eq, Nat.one_mul]
theorem kept_bounds {mag : Nat} (h0 : mag ≠ 0) {q place : Int} (hq : q = place + mag.log2 - 52) :
    4503599627370496 ≤ Toward.even.cut false (mag <<< (place - q).toNat) (q - place).toNat ∧ Toward.even.cut false (mag <<< (place - q).toNat) (q - place).toNat ≤ 9007199254740992 := by
  have hlo := Nat.log2_self_le h0
  have hhi := @Nat.lt_log2_self mag
  by_cases hl : mag.log2 ≤ 52
  · have e1 : (place - q).toNat = 52 - mag.log2 := by omega
    have e2 : (q - place).toNat = 0 := by omega
    rw [e1, e2]
    have hs : mag <<< (52 - mag.log2) = mag * 2 ^ (52 - mag.log2) := Nat.shiftLeft_eq ..
    have hpow : 2 ^ mag.log2 * 2 ^ (52 - mag.log2) = 4503599627370496 := by rw [← Nat.pow_add, show mag.log2 + (52 - mag.log2) = 52 by omega]
    have hpow' : 2 ^ (mag.log2 + 1) * 2 ^ (52 - mag.log2) = 9007199254740992 := by rw [← Nat.pow_add, show mag.log2 + 1 + (52 - mag.log2) = 53 by omega]
    have b1 : 4503599627370496 ≤ mag * 2 ^ (52 - mag.log2) := by rw [← hpow]; exact Nat.mul_le_mul_right _ hlo
    have b2 : mag * 2 ^ (52 - mag.log2) < 9007199254740992 := by rw [← hpow']; exact Nat.mul_lt_mul_of_pos_right hhi (Nat.two_pow_pos _)
    have e3 : Toward.even.cut false (mag <<< (52 - mag.log2)) 0 = mag * 2 ^ (52 - mag.log2) := by
      simp [Toward.cut, hs, Nat.mod_one]
    rw [e3]
    omega
  · have e1 : (place - q).toNat = 0 := by omega
    have e2 : (q - place).toNat = mag.log2 - 52 := by omega
    rw [e1, e2, Nat.shiftLeft_zero]
    unfold Toward.cut
    have e3 : min (mag.log2 - 52) (mag.log2 + 2) = mag.log2 - 52 := by omega
    simp only [e3, shiftOne]
    have hpow : 4503599627370496 * 2 ^ (mag.log2 - 52) = 2 ^ mag.log2 := by rw [show (4503599627370496 : Nat) = 2 ^ 52 by decide, ← Nat.pow_add, show 52 + (mag.log2 - 52) = mag.log2 by omega]
    have hpow' : 9007199254740992 * 2 ^ (mag.log2 - 52) = 2 ^ (mag.log2 + 1) := by rw [show (9007199254740992 : Nat) = 2 ^ 53 by decide, ← Nat.pow_add, show 53 + (mag.log2 - 52) = mag.log2 + 1 by omega]
    have b1 : 4503599627370496 ≤ mag / 2 ^ (mag.log2 - 52) := by rw [Nat.le_div_iff_mul_le (Nat.two_pow_pos _), hpow]; exact hlo
    have b2 : mag / 2 ^ (mag.log2 - 52) < 9007199254740992 := by rw [Nat.div_lt_iff_lt_mul (Nat.two_pow_pos _), hpow']; exact hhi
    have b3 : ∀ b : Bool, b.toNat ≤ 1 := by decide
    refine ⟨Nat.le_trans b1 (Nat.le_add_right _ _), ?_⟩
    have := b3 (decide (2 ^ (mag.log2 - 52) < 2 * (mag % 2 ^ (mag.log2 - 52))) || (2 ^ (mag.log2 - 52) == 2 * (mag % 2 ^ (mag.log2 - 52)) && mag / 2 ^ (mag.log2 - 52) % 2 == 1))
    omega
theorem nearest_read {mag : Nat} {place : Int} (h0 : mag ≠ 0) (h1 : -1074 ≤ place + mag.log2 - 52) (h2 : place + mag.log2 - 52 ≤ 900) :
    ∃ (m : Nat) (p : Int), double.read (double.nearest false mag place) = .number false m p ∧ 4503599627370496 ≤ m ∧ m < 9007199254740992 ∧
      (p = place + mag.log2 - 52 ∨ (m = 4503599627370496 ∧ p = place + mag.log2 - 51)) := by
  obtain ⟨k1, k2⟩ := kept_bounds h0 (q := place + mag.log2 - 52) (place := place) rfl
  have hmax : max (place + (mag.log2 : Int) - (double.fractionBits : Int)) (-1074) = place + mag.log2 - 52 := by
    rw [show double.fractionBits = 52 from rfl]
    have : (((52 : Nat) : Int)) = 52 := rfl
    omega
  obtain ⟨e, he⟩ : ∃ e : Nat, ((place + mag.log2 - 52) - (-1074)).toNat = e ∧ (e : Int) = place + mag.log2 - 52 + 1074 := ⟨_, rfl, by omega⟩
  obtain ⟨kept, hk⟩ : ∃ kept, kept = Toward.even.cut false (mag <<< (place - (place + mag.log2 - 52)).toNat) ((place + mag.log2 - 52) - place).toNat := ⟨_, rfl⟩
  have hn : double.nearest false mag place = e * 4503599627370496 + kept := by
    unfold Format.nearest
    rw [if_neg h0]
    simp only [double_least, double_binade, double_inf, hmax]
    rw [he.1, ← hk]
    unfold Format.word
    rw [← hk] at k2
    simp only [Bool.false_eq_true, if_false]
    omega
  rw [← hk] at k1 k2
  rw [hn]
  have hr : (e * 4503599627370496 + kept) / double.signWeight % 2 = 0 := by rw [double_sign, Nat.div_eq_of_lt (by omega)]
  have hm : (e * 4503599627370496 + kept) % double.signWeight = e * 4503599627370496 + kept := by rw [double_sign, Nat.mod_eq_of_lt (by omega)]
  unfold Format.read
  simp only [hr, hm, double_binade, double_inf, double_least]
  rw [if_neg (by omega), if_pos (by omega)]
  rcases Nat.lt_or_ge kept 9007199254740992 with h | h
  · refine ⟨kept, place + mag.log2 - 52, ?_, k1, h, .inl rfl⟩
    have d1 : (e * 4503599627370496 + kept) / 4503599627370496 = e + 1 := by omega
    have d2 : (e * 4503599627370496 + kept) % 4503599627370496 = kept - 4503599627370496 := by omega
    rw [d1, d2]
    have d3 : 4503599627370496 + (kept - 4503599627370496) = kept := by omega
    rw [d3, show (-1074 : Int) + ((e + 1 - 1 : Nat) : Int) = place + mag.log2 - 52 by omega]
    rfl
  · refine ⟨4503599627370496, place + mag.log2 - 51, ?_, Nat.le_refl _, by decide, .inr ⟨rfl, rfl⟩⟩
    have hk2 : kept = 9007199254740992 := by omega
    subst hk2
    have d1 : (e * 4503599627370496 + 9007199254740992) / 4503599627370496 = e + 2 := by omega
    have d2 : (e * 4503599627370496 + 9007199254740992) % 4503599627370496 = 0 := by omega
    rw [d1, d2, show (-1074 : Int) + ((e + 2 - 1 : Nat) : Int) = place + mag.log2 - 51 by omega, Nat.add_zero]
    rfl
theorem rootFrom_le (n : Nat) : ∀ (todo root : Nat), root * root ≤ n → Datum.rootFrom n todo root * Datum.rootFrom n todo root ≤ n
  | 0, root, h => h
  | todo + 1, root, h => by
    unfold Datum.rootFrom
    simp only
    split
    · rename_i h'; exact rootFrom_le n todo _ h'
    · exact rootFrom_le n todo _ h
theorem guess {n : Nat} (h0 : n ≠ 0) (hn : n < 2305843009213693952) : ∃ y r0 : Nat, double.sqrt (double.nearest false n 0) = some y ∧ (double.read y).toInt .zero = some (r0 : Int) ∧ r0 ≤ 2147483648 := by
  have hl : n.log2 ≤ 60 := by
    have := (Nat.log2_lt h0 (k := 61)).2 (by rw [show (2 : Nat) ^ 61 = 2305843009213693952 by decide]; exact hn)
    omega
  obtain ⟨m, p, hr, m1, m2, hp⟩ := nearest_read (place := 0) h0 (by omega) (by omega)
  have hm0 : m ≠ 0 := by omega
  have hml : m.log2 = 52 := by
    have a := (Nat.log2_lt hm0 (k := 53)).2 (by rw [show (2 : Nat) ^ 53 = 9007199254740992 by decide]; exact m2)
    have b := (Nat.le_log2 hm0 (k := 52)).2 (by rw [show (2 : Nat) ^ 52 = 4503599627370496 by decide]; exact m1)
    omega
  have hp9 : -52 ≤ p ∧ p ≤ 9 := by
    rcases hp with h | ⟨_, h⟩ <;> omega
  obtain ⟨more, hmore, hm56⟩ : ∃ more : Nat, 56 + ((p - (56 : Nat)) % 2).toNat = more ∧ (more = 56 ∧ p % 2 = 0 ∨ more = 57 ∧ p % 2 = 1) := ⟨_, rfl, by omega⟩
  obtain ⟨whole, hw⟩ : ∃ whole, Datum.rootFrom (m <<< more) ((m <<< more).log2 / 2 + 1) 0 = whole := ⟨_, rfl⟩
  have hroot : (Datum.number false m p).root 54 = some (.number false (2 * whole + (whole * whole != m <<< more).toNat) ((p - more) / 2 - 1)) := by
    unfold Datum.root
    simp only [hm0, if_false, Bool.false_eq_true, hml]
    rw [show 2 * 54 - 52 = 56 from rfl, hmore, hw]
  have hsq : whole * whole ≤ m <<< more := by rw [← hw]; exact rootFrom_le _ _ _ (by simp)
  have hnn : m <<< more < 1298074214633706907132624082305024 := by
    rw [Nat.shiftLeft_eq]
    rcases hm56 with ⟨h, _⟩ | ⟨h, _⟩ <;> subst h
    · exact Nat.lt_of_lt_of_le (Nat.mul_lt_mul_of_pos_right m2 (by decide)) (by decide)
    · exact Nat.lt_of_lt_of_le (Nat.mul_lt_mul_of_pos_right m2 (by decide)) (by decide)
  have hwhole : whole < 36028797018963968 := by
    rcases Nat.lt_or_ge whole 36028797018963968 with h | h
    · exact h
    · have := Nat.mul_le_mul h h
      omega
  have hnz : m <<< more ≠ 0 := by
    rw [Nat.shiftLeft_eq]
    have := Nat.mul_pos (show 0 < m by omega) (Nat.two_pow_pos more)
    omega
  obtain ⟨mag, hmag⟩ : ∃ mag, 2 * whole + (whole * whole != m <<< more).toNat = mag := ⟨_, rfl⟩
  have hb : ∀ b : Bool, b.toNat ≤ 1 := by decide
  have hmag1 : mag < 72057594037927936 := by
    have := hb (whole * whole != m <<< more)
    omega
  have hmag0 : mag ≠ 0 := by
    intro h
    have hw0 : whole = 0 := by omega
    subst hw0
    have : (0 * 0 != m <<< more) = true := by simpa using (Ne.symm hnz)
    rw [this] at hmag
    simp at hmag
    omega
  have hmagl : mag.log2 ≤ 55 := by
    have := (Nat.log2_lt hmag0 (k := 56)).2 (by rw [show (2 : Nat) ^ 56 = 72057594037927936 by decide]; exact hmag1)
    omega
  have hplace : -60 ≤ (p - (more : Int)) / 2 - 1 ∧ (p - (more : Int)) / 2 - 1 ≤ -25 := by
    rcases hm56 with ⟨h, h'⟩ | ⟨h, h'⟩ <;> subst h <;> omega
  obtain ⟨m', p', hr', n1, n2, hp'⟩ := nearest_read (mag := mag) (place := (p - (more : Int)) / 2 - 1) hmag0 (by omega) (by omega)
  have hm0' : m' ≠ 0 := by omega
  have hml' : m'.log2 = 52 := by
    have a := (Nat.log2_lt hm0' (k := 53)).2 (by rw [show (2 : Nat) ^ 53 = 9007199254740992 by decide]; exact n2)
    have b := (Nat.le_log2 hm0' (k := 52)).2 (by rw [show (2 : Nat) ^ 52 = 4503599627370496 by decide]; exact n1)
    omega
  have hpn : p' ≤ -21 ∧ (p' ≤ -22 ∨ m' = 4503599627370496) := by
    rcases hp' with h | ⟨h, h'⟩
    · exact ⟨by omega, .inl (by omega)⟩
    · exact ⟨by omega, .inr h⟩
  refine ⟨double.nearest false mag ((p - (more : Int)) / 2 - 1), m' / 2 ^ min (-p').toNat 54, ?_, ?_, ?_⟩
  · unfold Format.sqrt
    rw [hr, show double.fractionBits + 2 = 54 from rfl, hroot, hmag]
    rfl
  · rw [hr']
    unfold Datum.toInt Datum.integral
    simp only
    have e1 : p'.toNat = 0 := by omega
    rw [e1, Nat.shiftLeft_zero]
    unfold Toward.cut
    simp only [hml', shiftOne, Bool.toNat_false, Nat.add_zero]
    unfold signed
    simp
  · have hbig : ∀ d, 22 ≤ d → m' / 2 ^ d ≤ 2147483648 := fun d hd => by
      have : m' / 2 ^ d ≤ m' / 2 ^ 22 := Nat.div_le_div_left (Nat.pow_le_pow_right (by decide) hd) (Nat.two_pow_pos _)
      have e : (2 : Nat) ^ 22 = 4194304 := by decide
      rw [e] at this
      omega
    by_cases h22 : 22 ≤ (-p').toNat
    · exact hbig _ (by omega)
    · have e : min (-p').toNat 54 = 21 := by omega
      rw [e]
      rcases hpn.2 with h | h
      · omega
      · subst h; decide
end Go.Ab
namespace Go.Ab.Wave
open Go Go.Ab
def isq : Nat → Nat
  | 0 => 0
  | n + 1 => if (isq n + 1) * (isq n + 1) ≤ n + 1 then isq n + 1 else isq n
theorem isq_spec : ∀ n, isq n * isq n ≤ n ∧ n < (isq n + 1) * (isq n + 1)
  | 0 => by decide
  | n + 1 => by
    obtain ⟨h1, h2⟩ := isq_spec n
    unfold isq
    split
    · rename_i h
      refine ⟨h, ?_⟩
      have : (isq n + 1 + 1) * (isq n + 1 + 1) = (isq n + 1) * (isq n + 1) + 2 * (isq n + 1) + 1 := by rw [Nat.add_mul, Nat.mul_add]; omega
      omega
    · rename_i h
      exact ⟨by omega, by omega⟩
theorem isq_unique {n r : Nat} (h1 : r * r ≤ n) (h2 : n < (r + 1) * (r + 1)) : r = isq n := by
  obtain ⟨k1, k2⟩ := isq_spec n
  have mono : ∀ a b : Nat, a * a < b * b → a < b := fun a b h => by
    rcases Nat.lt_or_ge a b with h' | h'
    · exact h'
    · have := Nat.mul_le_mul h' h'; omega
  have := mono r (isq n + 1) (by omega)
  have := mono (isq n) (r + 1) (by omega)
  omega
theorem isq_lt {n r : Nat} : r ≤ isq n ↔ r * r ≤ n := by
  obtain ⟨k1, k2⟩ := isq_spec n
  constructor
  · intro h; exact Nat.le_trans (Nat.mul_le_mul h h) k1
  · intro h
    rcases Nat.lt_or_ge (isq n) r with h' | h'
    · have := Nat.mul_le_mul (show isq n + 1 ≤ r by omega) (show isq n + 1 ≤ r by omega); omega
    · exact h'
def rootI (n : Int) : Int := (isq n.toNat : Nat)
def rootUpI (n : Int) : Int := if n = 0 then 0 else rootI (n - 1) + 1
def upI (a b : Int) : Int := (a + b - 1).tdiv b
section
variable {g : Nat} {A : Hp} {V : Value → Hp → Prop} {rd : Option Nat} {D : List Nat} {Q : Ex → St → Prop}
theorem sq_le {r : Int} (h0 : 0 ≤ r) (h1 : r ≤ 2147483649) : 0 ≤ r * r ∧ r * r ≤ 2147483649 * 2147483649 := ⟨Int.mul_nonneg h0 h0, Int.mul_le_mul h1 h1 h0 (by omega)⟩
theorem loop65a {n : Int} (hn0 : 0 ≤ n) (hn : n < 2305843009213693952) (hQ : ∀ (T' : List Value) (r : Int), tget T' 0 = .int .i64 n → tget T' 3 = .int .i64 r → 0 ≤ r → r ≤ 2147483648 → r * r ≤ n → Q (.exit 0) ⟨T', D, A⟩) :
    ∀ (k : Nat) (T : List Value) (r : Int), 0 ≤ r → r ≤ k → r ≤ 2147483648 → tget T 0 = .int .i64 n → tget T 3 = .int .i64 r → W AP KL g rd (.loop body65a) ⟨T, D, A⟩ Q := by
  intro k
  induction k with
  | zero =>
    intro T r h1 h2 hr h0 h3
    have : r = 0 := by omega
    subst this
    rw [W_loop]
    simp (disch := as_aux_lemma => first | omega | simp only [hDs] <;> omega | simp [isCell]) [hRs, takeMarks, resA, resAll, resOne, Value.cells, body65a, h0, h3, show wr .i64 0 = 0 from rfl, show ¬ (n < 0) by omega]
    exact hQ _ 0 (by simp [h0]) (by simp [h3]) (by omega) (by omega) (by simpa using hn0)
  | succ k ih =>
    intro T r h1 h2 hr h0 h3
    have hm := sq_le h1 (by omega)
    have e : wr .i64 (r * r) = r * r := wrId (by omega) (by omega)
    rw [W_loop]
    by_cases h : n < r * r
    · have hr0 : r ≠ 0 := by intro h'; subst h'; omega
      simp (disch := as_aux_lemma => first | omega | simp only [hDs] <;> omega | simp [isCell]) [hRs, takeMarks, resA, resAll, resOne, Value.cells, body65a, h0, h3, e, h, wrId (n := r - 1) (by omega) (by omega)]
      exact ih _ (r - 1) (by omega) (by omega) (by omega) (by simp [h0]) (by simp)
    · simp (disch := as_aux_lemma => first | omega | simp only [hDs] <;> omega | simp [isCell]) [hRs, takeMarks, resA, resAll, resOne, Value.cells, body65a, h0, h3, e, h]
      exact hQ _ r (by simp [h0]) (by simp [h3]) h1 hr (by omega)
theorem loop65b {n : Int} (hn0 : 0 ≤ n) (hn : n < 2305843009213693952) (hQ : ∀ (T' : List Value), tget T' 3 = .int .i64 (rootI n) → Q (.exit 2) ⟨T', D, A⟩) :
    ∀ (k : Nat) (T : List Value) (r : Int), 0 ≤ r → r ≤ 2147483648 → rootI n - r ≤ k → r * r ≤ n → tget T 0 = .int .i64 n → tget T 3 = .int .i64 r → W AP KL g rd (.loop body65b) ⟨T, D, A⟩ Q := by
  obtain ⟨N, rfl⟩ : ∃ N : Nat, n = N := ⟨n.toNat, by omega⟩
  have eN : rootI (N : Int) = (isq N : Nat) := rfl
  have hN : isq N ≤ 1518500249 := by
    have h1 := (isq_spec N).1
    rcases Nat.lt_or_ge 1518500249 (isq N) with h | h
    · have := Nat.mul_le_mul h h; omega
    · exact h
  intro k
  induction k with
  | zero =>
    intro T r h1 hr hk hrn h0 h3
    obtain ⟨R, rfl⟩ : ∃ R : Nat, r = R := ⟨r.toNat, by omega⟩
    have hRN : R * R ≤ N := by have : ((R * R : Nat) : Int) ≤ N := by simpa using hrn
                               omega
    have h4 := isq_lt.2 hRN
    have hRe : R = isq N := by omega
    have hm := sq_le (r := (R : Int) + 1) (by omega) (by omega)
    have e1 : wr .i64 ((R : Int) + 1) = R + 1 := wrId (by omega) (by omega)
    have e2 : wr .i64 (((R : Int) + 1) * ((R : Int) + 1)) = ((R : Int) + 1) * ((R : Int) + 1) := wrId (by omega) (by omega)
    have hlt : ¬ (((R : Int) + 1) * ((R : Int) + 1) ≤ (N : Int)) := by
      have := (isq_spec N).2
      rw [← hRe] at this
      have : (N : Int) < (((R + 1) * (R + 1) : Nat) : Int) := by omega
      simp at this
      omega
    rw [W_loop]
    simp (disch := as_aux_lemma => first | omega | simp only [hDs] <;> omega | simp [isCell]) [hRs, takeMarks, resA, resAll, resOne, Value.cells, body65b, h0, h3, e1, e2, hlt]
    exact hQ _ (by simp [h3, eN, hRe])
  | succ k ih =>
    intro T r h1 hr hk hrn h0 h3
    obtain ⟨R, rfl⟩ : ∃ R : Nat, r = R := ⟨r.toNat, by omega⟩
    have hRN : R * R ≤ N := by have : ((R * R : Nat) : Int) ≤ N := by simpa using hrn
                               omega
    have h4 := isq_lt.2 hRN
    have hm := sq_le (r := (R : Int) + 1) (by omega) (by omega)
    have e1 : wr .i64 ((R : Int) + 1) = R + 1 := wrId (by omega) (by omega)
    have e2 : wr .i64 (((R : Int) + 1) * ((R : Int) + 1)) = ((R : Int) + 1) * ((R : Int) + 1) := wrId (by omega) (by omega)
    rw [W_loop]
    by_cases h : ((R : Int) + 1) * ((R : Int) + 1) ≤ (N : Int)
    · simp (disch := as_aux_lemma => first | omega | simp only [hDs] <;> omega | simp [isCell]) [hRs, takeMarks, resA, resAll, resOne, Value.cells, body65b, h0, h3, e1, e2, h]
      exact ih _ ((R : Int) + 1) (by omega) (by omega) (by omega) h (by simp [h0]) (by simp)
    · have hRe : R = isq N := isq_unique hRN (by
        have : (N : Int) < (((R + 1) * (R + 1) : Nat) : Int) := by simp; omega
        omega)
      simp (disch := as_aux_lemma => first | omega | simp only [hDs] <;> omega | simp [isCell]) [hRs, takeMarks, resA, resAll, resOne, Value.cells, body65b, h0, h3, e1, e2, h]
      exact hQ _ (by simp [h3, eN, hRe])
theorem w65 {n : Int} (hn0 : 0 ≤ n) (hn : n < 2305843009213693952) (hQ : V (.int .i64 (rootI n)) A) : WF AP KL g 65 [.int .i64 n] A V := by
  have key : ∃ (y r0 : Nat), sqrtA [.float .f64 (FloatKind.f64.nearest n)] = some (.float .f64 y) ∧ toIntA .i64 (.float .f64 y) = some (.int .i64 (r0 : Int)) ∧ r0 ≤ 2147483648 := by
    obtain ⟨N, rfl⟩ : ∃ N : Nat, n = N := ⟨n.toNat, by omega⟩
    by_cases h0 : N = 0
    · subst h0
      exact ⟨0, 0, by kernel_rfl, by kernel_rfl, by decide⟩
    · obtain ⟨y, r0, h1, h2, h3⟩ := guess h0 (by omega)
      have en : FloatKind.f64.nearest (N : Int) = Ieee.double.nearest false N 0 := by
        simp [FloatKind.nearest, FloatKind.encode, FloatKind.format, Ieee.Format.write, show ¬ ((N : Int) < 0) by omega]
      refine ⟨y, r0, ?_, ?_, h3⟩
      · rw [en]
        show (Ieee.double.sqrt _).map _ = _
        rw [h1]; rfl
      · show (match (Ieee.double.read y).toInt .zero with | some n => if IntKind.i64.min ≤ n ∧ n ≤ IntKind.i64.max then some (Value.int .i64 n) else none | none => none) = _
        rw [h2]
        have a1 : IntKind.i64.min = -9223372036854775808 := by decide
        have a2 : IntKind.i64.max = 9223372036854775807 := by decide
        simp only [a1, a2]
        rw [if_pos (by omega)]
  obtain ⟨y, r0, h1, h2, h3⟩ := key
  rw [WF_body rfl (show AP 65 = some F65 from rfl)]
  simp (disch := as_aux_lemma => first | omega | simp only [hDs] <;> omega | simp [isCell]) [hRs, takeMarks, resA, resAll, resOne, Value.cells, toF64A, WF_body (K := KL) rfl (show AP 89 = some F89 from rfl), WF_sqrt (K := KL) rfl (show AP 106 = some .sqrt from rfl), h1, h2]
  refine loop65a hn0 hn (fun T' r q0 q3 q1 q2 q4 => ?_) r0 _ (r0 : Int) (by omega) (Int.le_refl _) (by omega) (by simp) (by simp)
  simp (disch := as_aux_lemma => first | omega | simp only [hDs] <;> omega | simp [isCell]) [hRs, takeMarks, resA, resAll, resOne, Value.cells]
  refine loop65b hn0 hn (fun T'' p3 => ?_) (rootI n).toNat _ r q1 q2 (by omega) q4 q0 q3
  simp (disch := as_aux_lemma => first | omega | simp only [hDs] <;> omega | simp [isCell]) [hRs, takeMarks, resA, resAll, resOne, Value.cells, p3, hQ]
theorem rootI_spec {n : Int} (h : 0 ≤ n) : 0 ≤ rootI n ∧ rootI n * rootI n ≤ n ∧ n < (rootI n + 1) * (rootI n + 1) := by
  obtain ⟨N, rfl⟩ : ∃ N : Nat, n = N := ⟨n.toNat, by omega⟩
  obtain ⟨h1, h2⟩ := isq_spec N
  have eN : rootI (N : Int) = (isq N : Nat) := rfl
  rw [eN]
  refine ⟨by omega, ?_, ?_⟩
  · have : ((isq N * isq N : Nat) : Int) ≤ N := by omega
    simpa using this
  · have : (N : Int) < (((isq N + 1) * (isq N + 1) : Nat) : Int) := by omega
    simpa using this
theorem w67 {n : Int} (hn0 : 0 ≤ n) (hn : n < 2305843009213693952) (hQ : V (.int .i64 (rootUpI n)) A) : WF AP KL g 67 [.int .i64 n] A V := by
  rw [WF_body rfl (show AP 67 = some F67 from rfl)]
  by_cases h : n = 0
  · simp (disch := as_aux_lemma => first | omega | simp only [hDs] <;> omega | simp [isCell]) [hRs, takeMarks, resA, resAll, resOne, Value.cells, h]
    simp only [rootUpI, h, if_true] at hQ
    exact hQ
  · simp (disch := as_aux_lemma => first | omega | simp only [hDs] <;> omega | simp [isCell]) [hRs, takeMarks, resA, resAll, resOne, Value.cells, h, wrId (n := n - 1) (by omega) (by omega)]
    refine w65 (by omega) (by omega) ?_
    have hr := rootI_spec (n := n - 1) (by omega)
    have hb : rootI (n - 1) ≤ 2147483648 := by
      by_cases h' : 2147483648 < rootI (n - 1)
      · have := Int.mul_le_mul (show (2147483649 : Int) ≤ rootI (n - 1) by omega) (show (2147483649 : Int) ≤ rootI (n - 1) by omega) (by omega) (by omega)
        omega
      · omega
    simp (disch := as_aux_lemma => first | omega | simp only [hDs] <;> omega | simp [isCell]) [hRs, takeMarks, resA, resAll, resOne, Value.cells, wrId (n := rootI (n - 1) + 1) (by omega) (by omega)]
    simp only [rootUpI, if_neg h] at hQ
    exact hQ
theorem w68 {a b : Int} (ha : 0 ≤ a) (ha' : a < 4000000000000000000) (hb : 0 < b) (hb' : b < 4000000000000000000) (hQ : V (.int .i64 (upI a b)) A) : WF AP KL g 68 [.int .i64 a, .int .i64 b] A V := by
  have hq : 0 ≤ (a + b - 1).tdiv b ∧ (a + b - 1).tdiv b ≤ a + b - 1 := ⟨Int.tdiv_nonneg (by omega) (by omega), by
    rw [Int.tdiv_eq_ediv_of_nonneg (by omega)]
    exact Int.ediv_le_self _ (by omega)⟩
  rw [WF_body rfl (show AP 68 = some F68 from rfl)]
  simp (disch := as_aux_lemma => first | omega | simp only [hDs] <;> omega | simp [isCell]) [hRs, takeMarks, resA, resAll, resOne, Value.cells, wrId (n := a + b) (by omega) (by omega), wrId (n := a + b - 1) (by omega) (by omega), binA_quo (show b ≠ 0 by omega), wrId (n := (a + b - 1).tdiv b) (by omega) (by omega)]
  exact hQ
theorem w86 {a b : Int} (ha : 0 ≤ a) (ha' : a < 9000000000000000000) (hb : 0 < b) (hQ : V (.int .i64 (a.tdiv b)) A) : WF AP KL g 86 [.int .i64 a, .int .i64 b] A V := by
  have hq : 0 ≤ a.tdiv b ∧ a.tdiv b ≤ a := ⟨Int.tdiv_nonneg (by omega) (by omega), by
    rw [Int.tdiv_eq_ediv_of_nonneg (by omega)]
    exact Int.ediv_le_self _ (by omega)⟩
  rw [WF_body rfl (show AP 86 = some F86 from rfl)]
  simp (disch := as_aux_lemma => first | omega | simp only [hDs] <;> omega | simp [isCell]) [hRs, takeMarks, resA, resAll, resOne, Value.cells, binA_quo (show b ≠ 0 by omega), wrId (n := a.tdiv b) (by omega) (by omega)]
  exact hQ
end
end Go.Ab.Wave
namespace Go.Ab.Wave
open Go Go.Ab
def dryB (hi : Int) (gs zs : List Int) (i : Nat) : Bool := decide (hi ≤ gi gs (i * 2)) && decide (gi zs (i * 8 + 3) ≤ 0)
def dryL (hi : Int) (gs zs : List Int) (n : Nat) : List Value := (List.range n).map fun i => .bool (dryB hi gs zs i)
theorem dryL_succ (hi : Int) (gs zs : List Int) (n : Nat) : dryL hi gs zs (n + 1) = dryL hi gs zs n ++ [.bool (dryB hi gs zs n)] := by simp [dryL, List.range_succ]
section
variable {A0 : Hp} {G S n g : Nat} {sl lv : Value} {w hh s lo shi : Int} {gs zs : List Int} {rd : Option Nat} {D : List Nat} {Q : Ex → St → Prop}
theorem loop21 (hG : A0.get G = some (.cells [.int .i64 w, .int .i64 hh, .int .i64 s, sl] false)) (hS : A0.get S = some (.cells [.int .i64 lo, .int .i64 shi] false)) (hsl : RdS A0 2 n (ints gs) sl) (hl : RdS A0 8 n (ints zs) lv) (hn : n < 1000000) (hg : g ≤ A0.n)
    (hQ : ∀ T' A' sv', A0.n ≤ A'.n → (∀ x, x < A0.n → A'.get x = A0.get x) → AccS A0.n A' 1 (dryL shi gs zs n) sv' → tget T' 9 = sv' → Q (.exit 1) ⟨T', D, A'⟩) :
    ∀ (k i : Nat) (T : List Value) (A : Hp) (sv : Value), i + k = n → A0.n ≤ A.n → (∀ x, x < A0.n → A.get x = A0.get x) → AccS A0.n A 1 (dryL shi gs zs i) sv → tget T 3 = .pointer (some ⟨G, 0, none⟩) → tget T 4 = .pointer (some ⟨S, 0, none⟩) →
      tget T 9 = sv → tget T 28 = lv → tget T 29 = .int .i64 n → tget T 30 = .int .i64 i → W AP KL g rd (.loop body21) ⟨T, D, A⟩ Q := by
  have hgl := hsl.1
  have hzl := hl.1
  rw [ints_length] at hgl hzl
  intro k
  induction k with
  | zero =>
    intro i T A sv hi hn' hold hacc h3 h4 h9 h28 h29 h30
    have : i = n := by omega
    subst this
    rw [W_loop]
    simp (disch := as_aux_lemma => first | omega | simp only [hDs] <;> omega | simp [isCell]) [hRs, takeMarks, resA, resAll, resOne, Value.cells, body21, h29, h30]
    exact hQ _ _ sv hn' hold hacc (by simp [h9])
  | succ k ih =>
    intro i T A sv hi hn' hold hacc h3 h4 h9 h28 h29 h30
    have hsl' := hsl.mono hold
    have hl' := hl.mono hold
    have hG' := (hold G (Hp.lt_of_get hG)).trans hG
    have hS' := (hold S (Hp.lt_of_get hS)).trans hS
    have hGn := Hp.lt_of_get hG
    have hSn := Hp.lt_of_get hS
    obtain ⟨x, xc, xr, rfl, hx⟩ := hsl'.at (i := i) (by omega)
    obtain ⟨y, yc, yr, rfl, hy⟩ := hl'.at (i := i) (by omega)
    have hxn := Hp.lt_of_get hx
    have hyn := Hp.lt_of_get hy
    rw [W_loop]
    have key : ∀ b : Bool, b = dryB shi gs zs i → ∃ sv' A', appendA g ((A.push (.cells [.int .i64 (gi zs (i * 8)), .int .i64 (gi zs (i * 8 + 1)), .int .i64 (gi zs (i * 8 + 2)), .int .i64 (gi zs (i * 8 + 3)), .int .i64 (gi zs (i * 8 + 4)), .int .i64 (gi zs (i * 8 + 5)), .int .i64 (gi zs (i * 8 + 6)), .int .i64 (gi zs (i * 8 + 7))] false)).push (.cells [.bool b] false)) 1 1 sv (.slice (some ⟨A.n + 1, 0, some 1⟩) 1 1) = some (sv', A') ∧ AccS A0.n A' 1 (dryL shi gs zs (i + 1)) sv' ∧
        (∀ x, x < A0.n → A'.get x = A0.get x) ∧ A0.n ≤ A'.n := fun b hb => by
      obtain ⟨sv', A', e, hacc', hold', hn''⟩ := (hacc.mono (A' := A.push (.cells [.int .i64 (gi zs (i * 8)), .int .i64 (gi zs (i * 8 + 1)), .int .i64 (gi zs (i * 8 + 2)), .int .i64 (gi zs (i * 8 + 3)), .int .i64 (gi zs (i * 8 + 4)), .int .i64 (gi zs (i * 8 + 5)), .int .i64 (gi zs (i * 8 + 6)), .int .i64 (gi zs (i * 8 + 7))] false)) (fun x hx => get_push_old hx)).add (g := g) (bytes := 1) (new := [.bool b]) (ro := false) (n := i) hg (by simp; omega) rfl (by decide) rfl (by simp [dryL]) (by unfold room; omega)
      simp only [Hp.n_push] at e hn''
      exact ⟨sv', A', e, by rw [dryL_succ, ← hb]; exact hacc', fun x hx => by rw [hold' x hx, get_push_old (by omega), hold x hx], by omega⟩
    by_cases h : shi ≤ gi gs (i * 2)
    · obtain ⟨sv', A', e, hacc', hold', hn''⟩ := key (decide (gi zs (i * 8 + 3) ≤ 0)) (by simp [dryB, h])
      simp (disch := as_aux_lemma => first | omega | simp only [hDs] <;> omega | simp [isCell]) [hRs, takeMarks, resA, resAll, resOne, Value.cells, body21, h3, h4, h9, h28, h29, h30, show ((i : Int) < n) by omega, show i < n by omega, idxSA_ok, hx, hy, hG', hS', ints_get, ints_8, storeB_cells, setRange_all, h, slitA, fillA, setRange, e]
      exact ih (i + 1) _ A' sv' (by omega) hn'' hold' hacc' (by simp [h3]) (by simp [h4]) (by simp) (by simp [h28]) (by simp [h29]) (by simp [wrId (n := (i : Int) + 1) (by omega) (by omega)])
    · obtain ⟨sv', A', e, hacc', hold', hn''⟩ := key false (by simp [dryB, h])
      simp (disch := as_aux_lemma => first | omega | simp only [hDs] <;> omega | simp [isCell]) [hRs, takeMarks, resA, resAll, resOne, Value.cells, body21, h3, h4, h9, h28, h29, h30, show ((i : Int) < n) by omega, show i < n by omega, idxSA_ok, hx, hy, hG', hS', ints_get, ints_8, storeB_cells, setRange_all, h, slitA, fillA, setRange, e]
      exact ih (i + 1) _ A' sv' (by omega) hn'' hold' hacc' (by simp [h3]) (by simp [h4]) (by simp) (by simp [h28]) (by simp [h29]) (by simp [wrId (n := (i : Int) + 1) (by omega) (by omega)])
end
end Go.Ab.Wave
namespace Go.Ab.Wave
open Go Go.Ab
section
variable {A0 : Hp} {G S n g : Nat} {sl lv : Value} {w hh s lo shi : Int} {gs zs : List Int} {rd : Option Nat} {D : List Nat} {Q : Ex → St → Prop}
theorem loop22 (hG : A0.get G = some (.cells [.int .i64 w, .int .i64 hh, .int .i64 s, sl] false)) (hS : A0.get S = some (.cells [.int .i64 lo, .int .i64 shi] false)) (hsl : RdS A0 2 n (ints gs) sl) (hl : RdS A0 8 n (ints zs) lv) (hn : n < 1000000) (hg : g ≤ A0.n)
    (hs1 : -20000 ≤ shi) (hs2 : shi ≤ 20000) (hgb : ∀ i, i < n → -1200000 ≤ gi gs (i * 2) ∧ gi gs (i * 2) ≤ 1200000)
    (hQ : ∀ T' A' sv', A0.n ≤ A'.n → (∀ x, x < A0.n → A'.get x = A0.get x) → AccS A0.n A' 1 (dryL shi gs zs n) sv' → tget T' 9 = sv' → Q (.exit 0) ⟨T', D, A'⟩) :
    ∀ (k i : Nat) (T : List Value) (A : Hp) (sv : Value), i + k = n → A0.n ≤ A.n → (∀ x, x < A0.n → A.get x = A0.get x) → AccS A0.n A 1 (dryL shi gs zs i) sv → tget T 3 = .pointer (some ⟨G, 0, none⟩) → tget T 4 = .pointer (some ⟨S, 0, none⟩) →
      tget T 9 = sv → tget T 2 = lv → tget T 10 = .int .i64 i → W AP KL g rd (.loop body22) ⟨T, D, A⟩ Q := by
  have hgl := hsl.1
  have hzl := hl.1
  have hlen := hl.len
  rw [ints_length] at hgl hzl
  intro k
  induction k with
  | zero =>
    intro i T A sv hi hn' hold hacc h3 h4 h9 h2 h10
    have : i = n := by omega
    subst this
    rw [W_loop]
    simp (disch := as_aux_lemma => first | omega | simp only [hDs] <;> omega | simp [isCell]) [hRs, takeMarks, resA, resAll, resOne, Value.cells, body22, h2, h10, hlen]
    exact hQ _ _ sv hn' hold hacc (by simp [h9])
  | succ k ih =>
    intro i T A sv hi hn' hold hacc h3 h4 h9 h2 h10
    have hsl' := hsl.mono hold
    have hl' := hl.mono hold
    have hG' := (hold G (Hp.lt_of_get hG)).trans hG
    have hS' := (hold S (Hp.lt_of_get hS)).trans hS
    obtain ⟨x, xc, xr, rfl, hx⟩ := hsl'.at (i := i) (by omega)
    obtain ⟨y, yc, yr, rfl, hy⟩ := hl'.at (i := i) (by omega)
    obtain ⟨b1, b2⟩ := hgb i (by omega)
    have key : ∀ b : Bool, b = dryB shi gs zs i → ∃ sv' A', appendA g (A.push (.cells [.bool b] false)) 1 1 sv (.slice (some ⟨A.n, 0, some 1⟩) 1 1) = some (sv', A') ∧ AccS A0.n A' 1 (dryL shi gs zs (i + 1)) sv' ∧
        (∀ x, x < A0.n → A'.get x = A0.get x) ∧ A0.n ≤ A'.n := fun b hb => by
      obtain ⟨sv', A', e, hacc', hold', hn''⟩ := hacc.add (g := g) (bytes := 1) (new := [.bool b]) (ro := false) (n := i) hg hn' rfl (by decide) rfl (by simp [dryL]) (by unfold room; omega)
      exact ⟨sv', A', e, by rw [dryL_succ, ← hb]; exact hacc', fun x hx => by rw [hold' x hx, hold x hx], by omega⟩
    rw [W_loop]
    by_cases h : shi - gi gs (i * 2) ≤ 0
    · obtain ⟨sv', A', e, hacc', hold', hn''⟩ := key (decide (gi zs (i * 8 + 3) ≤ 0)) (by simp [dryB, show shi ≤ gi gs (i * 2) by omega])
      simp (disch := as_aux_lemma => first | omega | simp only [hDs] <;> omega | simp [isCell]) [hRs, takeMarks, resA, resAll, resOne, Value.cells, body22, h3, h4, h9, h2, h10, hlen, show ((i : Int) < n) by omega, show i < n by omega, idxSA_ok, hx, hy, hG', hS', ints_get, wrId (n := shi - gi gs (i * 2)) (by omega) (by omega), h, slitA, fillA, setRange, e]
      exact ih (i + 1) _ A' sv' (by omega) hn'' hold' hacc' (by simp [h3]) (by simp [h4]) (by simp) (by simp [h2]) (by simp [wrId (n := (i : Int) + 1) (by omega) (by omega)])
    · obtain ⟨sv', A', e, hacc', hold', hn''⟩ := key false (by simp [dryB, show ¬ shi ≤ gi gs (i * 2) by omega])
      simp (disch := as_aux_lemma => first | omega | simp only [hDs] <;> omega | simp [isCell]) [hRs, takeMarks, resA, resAll, resOne, Value.cells, body22, h3, h4, h9, h2, h10, hlen, show ((i : Int) < n) by omega, show i < n by omega, idxSA_ok, hx, hy, hG', hS', ints_get, wrId (n := shi - gi gs (i * 2)) (by omega) (by omega), h, slitA, fillA, setRange, e]
      exact ih (i + 1) _ A' sv' (by omega) hn'' hold' hacc' (by simp [h3]) (by simp [h4]) (by simp) (by simp [h2]) (by simp [wrId (n := (i : Int) + 1) (by omega) (by omega)])
def bls (l : List Bool) : List Value := l.map .bool
theorem bls_get {l : List Bool} {i : Nat} (h : i < l.length) : cellAt (bls l) i = some (.bool (l.getD i false)) := by simp [bls, cellAt, h]
theorem loop23 {A : Hp} {l : List Bool} {va vb : Value} (ha : RdS A 1 n (bls l) va) (hb : RdS A 1 n (bls l) vb) (hn : n < 1000000)
    (hQ : ∀ T', Q (.exit 0) ⟨T', D, A⟩) :
    ∀ (k i : Nat) (T : List Value), i + k = n → tget T 0 = va → tget T 1 = vb → tget T 5 = .int .i64 i → W AP KL g rd (.loop body23) ⟨T, D, A⟩ Q := by
  have hl : l.length = n := by have := ha.1; simpa [bls] using this
  have hlen := ha.len
  intro k
  induction k with
  | zero =>
    intro i T hi h0 h1 h5
    rw [W_loop]
    simp (disch := as_aux_lemma => first | omega | simp only [hDs] <;> omega | simp [isCell]) [hRs, takeMarks, resA, resAll, resOne, Value.cells, body23, h0, h5, hlen, show ¬ ((i : Int) < n) by omega]
    exact hQ _
  | succ k ih =>
    intro i T hi h0 h1 h5
    obtain ⟨x, xc, xr, rfl, hx⟩ := ha.at (i := i) (by omega)
    obtain ⟨y, yc, yr, rfl, hy⟩ := hb.at (i := i) (by omega)
    rw [W_loop]
    simp (disch := as_aux_lemma => first | omega | simp only [hDs] <;> omega | simp [isCell]) [hRs, takeMarks, resA, resAll, resOne, Value.cells, body23, h0, h1, h5, show ((i : Int) < n) by omega, show i < n by omega, idxSA_ok, hx, hy, bls_get, hl]
    exact ih (i + 1) _ (by omega) (by simp [h0]) (by simp [h1]) (by simp [wrId (n := (i : Int) + 1) (by omega) (by omega)])
theorem w23 {A : Hp} {l : List Bool} {va vb : Value} {V : Value → Hp → Prop} (ha : RdS A 1 n (bls l) va) (hb : RdS A 1 n (bls l) vb) (hn : n < 1000000) (hQ : V (.bool true) A) : WF AP KL g 23 [va, vb] A V := by
  rw [WF_body rfl (show AP 23 = some F23 from rfl)]
  simp (disch := as_aux_lemma => first | omega | simp only [hDs] <;> omega | simp [isCell]) [hRs, takeMarks, resA, resAll, resOne, Value.cells, ha.len, hb.len]
  refine loop23 ha hb hn (fun T' => ?_) n 0 _ (by omega) (by simp) (by simp) (by simp)
  simp (disch := as_aux_lemma => first | omega | simp only [hDs] <;> omega | simp [isCell]) [hRs, takeMarks, resA, resAll, resOne, Value.cells, hQ]
end
end Go.Ab.Wave
namespace Go.Ab.Wave
open Go Go.Ab
def flat2 (l : List (Int × Int)) : List Int := l.flatMap fun p => [p.1, p.2]
theorem cellsOf_flat : ∀ l : List (Int × Int), cellsOf l = ints (flat2 l)
  | [] => rfl
  | p :: l => by
    have e : cellsOf (p :: l) = J p.1 :: J p.2 :: cellsOf l := rfl
    rw [e, cellsOf_flat l]
    rfl
theorem flat2_length : ∀ l : List (Int × Int), (flat2 l).length = l.length * 2
  | [] => rfl
  | p :: l => by
    have e : flat2 (p :: l) = p.1 :: p.2 :: flat2 l := rfl
    rw [e, List.length_cons, List.length_cons, flat2_length l, List.length_cons]; omega
theorem flat2_lo : ∀ {l : List (Int × Int)} {i : Nat}, i < l.length → ∃ p, p ∈ l ∧ gi (flat2 l) (i * 2) = p.1 ∧ gi (flat2 l) (i * 2 + 1) = p.2
  | p :: l, 0, _ => ⟨p, by simp, rfl, rfl⟩
  | p :: l, i + 1, h => by
    obtain ⟨q, h1, h2, h3⟩ := flat2_lo (l := l) (i := i) (by simpa using h)
    refine ⟨q, by simp [h1], ?_, ?_⟩
    · rw [← h2, show (i + 1) * 2 = i * 2 + 2 by omega]; rfl
    · rw [← h3, show (i + 1) * 2 + 1 = i * 2 + 1 + 2 by omega]; rfl
theorem rd_ground {A : Hp} {sl : Value} {l : List (Int × Int)} (h : groundOf A sl = some l) : RdS A 2 l.length (ints (flat2 l)) sl := by
  refine ⟨by rw [ints_length, flat2_length], ?_⟩
  rcases (groundOf_cases h).2 with ⟨rfl, rfl⟩ | ⟨x, cap, ro, rfl, hx⟩
  · exact .inl ⟨rfl, rfl⟩
  · exact .inr ⟨x, cap, ro, rfl, by rw [← cellsOf_flat]; exact hx⟩
theorem ints_take {zs : List Int} {o k : Nat} (h : o + k ≤ zs.length) : ints (zs.take o) ++ cellsFrom zs o k = ints (zs.take (o + k)) := by
  have := ints_part h
  rw [partA_some (by rw [ints_length]; exact h)] at this
  have e : ((ints zs).drop o).take k = cellsFrom zs o k := by
    injection this with this
    injection this with this
    injection this
  rw [← e]
  simp only [ints, ← List.map_take, ← List.map_drop, ← List.map_append]
  rw [← List.take_add]
theorem check_ok {w h s : Int} {l : List (Int × Int)} (hc : checkG w h s l = 0) : ∀ p ∈ l, p.1 ≤ p.2 ∧ -1200000 ≤ p.1 ∧ p.2 ≤ 1200000 := by
  intro p hp
  unfold checkG at hc
  split at hc
  · cases hc
  · split at hc
    · cases hc
    · split at hc
      · cases hc
      · rename_i hb
        have hb' : l.any badSpan = false := by simpa using hb
        have := List.any_eq_false.1 hb' p hp
        simp only [badSpan_eq, Bool.or_eq_true, decide_eq_true_eq, not_or] at this
        omega
def dryErr (w hh s : Int) (l : List (Int × Int)) (lo shi : Int) (n : Nat) : Int :=
  if checkG w hh s l = 0 then (if inS lo shi (-20000) 20000 = true then (if n = l.length then 0 else 11) else 3) else checkG w hh s l
def dryRes (w hh s : Int) (l : List (Int × Int)) (lo shi : Int) (n : Nat) (zs : List Int) : List Value :=
  if dryErr w hh s l lo shi n = 0 then dryL shi (flat2 l) zs n else []
def spanV (a b : Int) : Value := .agg ⟨[.int .i64 a, .int .i64 b]⟩
section
variable {A : Hp} {n g : Nat} {sl lv : Value} {w hh s lo shi : Int} {l : List (Int × Int)} {zs : List Int} {V : Value → Hp → Prop}
theorem S42_eq' {a b c d : Int} : S42 g [.agg ⟨[.int .i64 a, .int .i64 b]⟩, .int .i64 c, .int .i64 d] A = some (.bool (inS a b c d), A) := rfl
theorem w21 (hl : groundOf A sl = some l) (hz : RdS A 8 n (ints zs) lv) (hn : n < 1000000) (hg : g ≤ A.n)
    (hQ : ∀ sv A', A.n ≤ A'.n → (∀ x, x < A.n → A'.get x = A.get x) → AccS A.n A' 1 (dryRes w hh s l lo shi n zs) sv → V (.tuple ⟨[sv, .int .i64 (dryErr w hh s l lo shi n)]⟩) A') :
    WF AP KL g 21 [gridV w hh s sl, spanV lo shi, lv] A V := by
  have hl1 := groundOf_push (b := .cells [.int .i64 lo, .int .i64 shi] false) (groundOf_push (b := .cells [.int .i64 w, .int .i64 hh, .int .i64 s, sl] false) hl)
  have hlen := (rd_ground hl).len
  rw [WF_body rfl (show AP 21 = some F21 from rfl)]
  by_cases h1 : checkG w hh s l = 0
  · by_cases h2 : inS lo shi (-20000) 20000 = true
    · by_cases h3 : n = l.length
      · have he : dryErr w hh s l lo shi n = 0 := by simp [dryErr, h1, h2, h3]
        simp (disch := as_aux_lemma => first | omega | simp only [hDs] <;> omega | simp [isCell]) [hRs, takeMarks, resA, resAll, resOne, Value.cells, gridV, spanV, J, WF_spec (show KL 37 = some S37 from rfl), S37_eq hl1, WF_spec (show KL 42 = some S42 from rfl), S42_eq', h1, h2, hz.len, hlen, show ((n : Int) = (l.length : Int)) by omega]
        refine loop21 (G := A.n) (S := A.n + 1) (n := n) (lv := lv) (gs := flat2 l) (zs := zs) (shi := shi) push2_a push2_b (by rw [h3]; exact (rd_ground hl).push.push) hz.push.push hn ?_ (fun T' A' sv' k1 k2 k3 k4 => ?_)
          n 0 _ _ (.slice none 0 0) (by omega) (Nat.le_refl _) (fun _ _ => rfl) AccS.nil ?_ ?_ ?_ ?_ ?_ ?_
        · exact Nat.le_trans hg (Nat.le_add_right A.n 2)
        · simp (disch := as_aux_lemma => first | omega | simp only [hDs] <;> omega | simp [isCell]) [hRs, takeMarks, resA, resAll, resOne, Value.cells, k4]
          rw [he] at hQ
          refine hQ sv' A' (Nat.le_trans (Nat.le_add_right A.n 2) k1) (fun x hx => ?_) ?_
          · rw [k2 x (Nat.lt_of_lt_of_le hx (Nat.le_add_right A.n 2)), push2_old hx]
          · unfold dryRes; rw [if_pos he]; exact k3.weaken (Nat.le_add_right A.n 2)
        all_goals simp [h3]
      · have he : dryErr w hh s l lo shi n = 11 := by simp [dryErr, h1, h2, h3]
        simp (disch := as_aux_lemma => first | omega | simp only [hDs] <;> omega | simp [isCell]) [hRs, takeMarks, resA, resAll, resOne, Value.cells, gridV, spanV, J, WF_spec (show KL 37 = some S37 from rfl), S37_eq hl1, WF_spec (show KL 42 = some S42 from rfl), S42_eq', h1, h2, hz.len, hlen, show ¬ ((n : Int) = (l.length : Int)) by omega]
        rw [he] at hQ
        refine hQ _ _ ?_ (fun x hx => ?_) (.inl ⟨rfl, ?_⟩)
        · exact Nat.le_add_right A.n 2
        · exact push2_old hx
        · unfold dryRes; rw [if_neg (by omega)]
    · have he : dryErr w hh s l lo shi n = 3 := by simp [dryErr, h1, h2]
      simp (disch := as_aux_lemma => first | omega | simp only [hDs] <;> omega | simp [isCell]) [hRs, takeMarks, resA, resAll, resOne, Value.cells, gridV, spanV, J, WF_spec (show KL 37 = some S37 from rfl), S37_eq hl1, WF_spec (show KL 42 = some S42 from rfl), S42_eq', h1, h2, hz.len, hlen]
      rw [he] at hQ
      refine hQ _ _ ?_ (fun x hx => ?_) (.inl ⟨rfl, ?_⟩)
      · exact Nat.le_add_right A.n 2
      · exact push2_old hx
      · unfold dryRes; rw [if_neg (by omega)]
  · have he : dryErr w hh s l lo shi n = checkG w hh s l := by simp [dryErr, h1]
    simp (disch := as_aux_lemma => first | omega | simp only [hDs] <;> omega | simp [isCell]) [hRs, takeMarks, resA, resAll, resOne, Value.cells, gridV, spanV, J, WF_spec (show KL 37 = some S37 from rfl), S37_eq hl1, h1]
    rw [he] at hQ
    refine hQ _ _ ?_ (fun x hx => ?_) (.inl ⟨rfl, ?_⟩)
    · exact Nat.le_add_right A.n 2
    · exact push2_old hx
    · unfold dryRes; rw [if_neg (by omega)]
end
end Go.Ab.Wave
