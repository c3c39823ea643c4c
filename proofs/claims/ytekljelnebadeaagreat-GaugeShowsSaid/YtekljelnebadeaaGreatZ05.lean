/- Loads, stores, and what is made. -/
import Derived.Test.YtekljelnebadeaaGreatZ04
import Derived.Lib.UnsafeStr
import Derived.Laws.CopyRow
set_option linter.unusedSimpArgs false
set_option linter.unusedVariables false
set_option linter.unusedSectionVars false
namespace Go.Ab
section
variable {E : Env} {nt lim : Nat} {T : List Value} {A A' : Hp} {φ : NM} {w : World} {a : Act} {g : Nat} {v : Value} {o : Oper} {cv : CallFn}
theorem pick_ok {c x y : Operand} {c' x' y' : Opd} (ho : o.op = .pick c x y) (hT : RelT E.lab φ nt T a.tmps) (hR : Rel E lim φ A w)
    (hc : compOpd E.lab nt c = some c') (hx : compOpd E.lab nt x = some x') (hy : compOpd E.lab nt y = some y')
    (h : pureV (pickA (ev T c') (ev T x') (ev T y')) A = some (v, A')) : OpOk E lim o φ A w a g v A' := by
  obtain ⟨h, hA⟩ := pureV_some h
  have rc := hT.eval hc
  generalize ev T c' = u at h rc
  unfold pickA at h
  split at h
  · rename_i t
    have := bool_inv rc
    cases h
    refine OpOk.of_pure hA hR (v' := if t then a.eval x else a.eval y) ?_ ?_
    · simp [execOp, ho, this, asBool]
    · cases t
      · exact hT.eval hy
      · exact hT.eval hx
  · cases h
theorem nilCheck_ok {x : Operand} {x' : Opd} (ho : o.op = .nilCheck x) (hT : RelT E.lab φ nt T a.tmps) (hR : Rel E lim φ A w)
    (hx : compOpd E.lab nt x = some x') (h : pureV (nilCheckA (ev T x')) A = some (v, A')) : OpOk E lim o φ A w a g v A' := by
  obtain ⟨h, hA⟩ := pureV_some h
  have rx := hT.eval hx
  generalize ev T x' = u at h rx
  unfold nilCheckA at h
  split at h
  · cases h
    generalize hu' : a.eval x = u' at rx
    refine OpOk.of_pure hA hR ?_ rx
    cases rx with | ptr hh => simp [execOp, ho, hu']
  · cases h
    generalize hu' : a.eval x = u' at rx
    refine OpOk.of_pure hA hR ?_ rx
    cases rx with | func => simp [execOp, ho, hu']
  · cases h
    generalize hu' : a.eval x = u' at rx
    refine OpOk.of_pure hA hR ?_ rx
    cases rx with | yield => simp [execOp, ho, hu']
  · cases h
theorem bin_ok {op : BinOp} {t t' : TypeId} {x y : Operand} {x' y' : Opd} (ho : o.op = .binOp op t x y t') (hT : RelT E.lab φ nt T a.tmps) (hR : Rel E lim φ A w)
    (hx : compOpd E.lab nt x = some x') (hy : compOpd E.lab nt y = some y')
    (h : pureV (binA op (ev T x') (ev T y')) A = some (v, A')) : OpOk E lim o φ A w a g v A' := by
  obtain ⟨h, hA⟩ := pureV_some h
  have rx := hT.eval hx
  have ry := hT.eval hy
  obtain ⟨k, k', n, m, e1, e2⟩ := binA_ints h
  rw [e1] at rx h; rw [e2] at ry h
  have hx' := int_inv rx
  have hy' := int_inv ry
  refine OpOk.of_pure hA hR (v' := v) ?_ (relV_simple (binA_flat h))
  simp [execOp, ho, hx', hy', eqGuard_int, binA_run h]
theorem beq_ok {op : BinOp} {neg : Bool} {t t' : TypeId} {x y : Operand} {x' y' : Opd} (ho : o.op = .binOp op t x y t') (hop : op = if neg then .neq else .eql) (hu : E.P.underlying t = some .bool)
    (hT : RelT E.lab φ nt T a.tmps) (hR : Rel E lim φ A w) (hx : compOpd E.lab nt x = some x') (hy : compOpd E.lab nt y = some y')
    (h : pureV (beqA neg (ev T x') (ev T y')) A = some (v, A')) : OpOk E lim o φ A w a g v A' := by
  obtain ⟨h, hA⟩ := pureV_some h
  have rx := hT.eval hx
  have ry := hT.eval hy
  generalize ev T x' = u at h rx
  generalize ev T y' = u2 at h ry
  unfold beqA at h
  split at h
  · rename_i b c
    cases h
    have hx' := bool_inv rx
    have hy' := bool_inv ry
    refine OpOk.of_pure hA hR (v' := .bool (if neg then !(b == c) else b == c)) ?_ (.bool _)
    subst hop
    cases neg <;> simp [execOp, ho, hx', hy', eqGuard_at_bool, binOp, run_equal_bool _ _ _ _ hu]
  · cases h
theorem lessB_eq : ∀ x y : List UInt8, Op.bytesLess x y = lessB x y
  | [], [] => rfl
  | _ :: _, [] => rfl
  | [], _ :: _ => rfl
  | a :: x, b :: y => by simp [Op.bytesLess, lessB, lessB_eq x y]
theorem run_stringOp {op : BinOp} {x y : ByteArray} {v : Value} (h : strA op x y = some v) (w : World) : (Op.stringOp op x y).run E.P w = .ok v w := by
  have e : (x.toList == y.toList) = strEq x y := by simp [strEq, ByteArray.toList_eq]
  have l : Op.bytesLess x.toList y.toList = strLt x y := by simp [strLt, ByteArray.toList_eq, lessB_eq]
  unfold Op.stringOp
  rw [e, l]
  unfold strA at h
  cases op <;> simp only at h <;> try (cases h; done)
  case add =>
    split at h
    · cases h
    · rename_i hn
      cases h
      have hmx : IntKind.i64.max = 9223372036854775807 := by decide
      simp only [hmx]
      rw [if_neg hn]
      rfl
  all_goals (cases h; rfl)
theorem strOp_ok {op : BinOp} {t t' : TypeId} {x y : Operand} {x' y' : Opd} (ho : o.op = .binOp op t x y t') (hu : E.P.underlying t = some .string)
    (hT : RelT E.lab φ nt T a.tmps) (hR : Rel E lim φ A w) (hx : compOpd E.lab nt x = some x') (hy : compOpd E.lab nt y = some y')
    (h : pureV (strOpA op (ev T x') (ev T y')) A = some (v, A')) : OpOk E lim o φ A w a g v A' := by
  obtain ⟨h, hA⟩ := pureV_some h
  have rx := hT.eval hx
  have ry := hT.eval hy
  generalize ev T x' = u at h rx
  generalize ev T y' = u2 at h ry
  unfold strOpA at h
  split at h
  · rename_i b c
    have hx' := string_inv rx
    have hy' := string_inv ry
    have hrun := run_stringOp (E := E) h w
    have hv : RelV E.lab φ v v := by
      unfold strA at h
      split at h <;> try (cases h; done)
      · split at h
        · cases h
        · cases h; exact .string _
      all_goals (cases h; exact .bool _)
    refine OpOk.of_pure hA hR (v' := v) ?_ hv
    have hb : binOp op t (.string b) (.string c) = Op.stringOp op b c := by cases op <;> rfl
    simp [execOp, ho, hx', hy', eqGuard_at_string, hb, hrun]
  · cases h
theorem strIdx_ok {t : TypeId} {x i : Operand} {x' i' : Opd} (ho : o.op = .index t x i) (hu : E.P.underlying t = some .string)
    (hT : RelT E.lab φ nt T a.tmps) (hR : Rel E lim φ A w) (hx : compOpd E.lab nt x = some x') (hi : compOpd E.lab nt i = some i')
    (h : pureV (strIdxA (ev T x') (ev T i')) A = some (v, A')) : OpOk E lim o φ A w a g v A' := by
  obtain ⟨h, hA⟩ := pureV_some h
  have rx := hT.eval hx
  have ri := hT.eval hi
  generalize ev T x' = u at h rx
  generalize ev T i' = u2 at h ri
  unfold strIdxA at h
  split at h
  · rename_i s k j
    split at h
    · rename_i hj
      simp only [Option.map_eq_some_iff] at h
      obtain ⟨b, hb, rfl⟩ := h
      have hx' := string_inv rx
      have hi' := int_inv ri
      have hb' : s[j.toNat]? = some b := by
        obtain ⟨h1, h2⟩ := List.getElem?_eq_some_iff.1 hb
        have h3 : j.toNat < s.size := by simpa using h1
        rw [getElem?_pos s j.toNat h3]
        rw [← h2]
        rfl
      refine OpOk.of_pure hA hR (v' := .int .u8 b.toNat) ?_ (.int _ _)
      simp [execOp, ho, hx', hi', Instr.index, run_underlying hu, asIntOf, hj, hb']
    · cases h
  · cases h
theorem eqv_ok {op : BinOp} {neg : Bool} {sh : List Nat} {t t' : TypeId} {x y : Operand} {x' y' : Opd} (ho : o.op = .binOp op t x y t') (hop : op = if neg then .neq else .eql)
    (hu : isAggA E.P t = some true) (hi : intT E.P 20 t = some sh) (hg : E.P.eqGuardType E.P.depth t = false)
    (hT : RelT E.lab φ nt T a.tmps) (hR : Rel E lim φ A w) (hx : compOpd E.lab nt x = some x') (hy : compOpd E.lab nt y = some y')
    (h : pureV (eqvA neg sh (ev T x') (ev T y')) A = some (v, A')) : OpOk E lim o φ A w a g v A' := by
  obtain ⟨h, hA⟩ := pureV_some h
  have rx := hT.eval hx
  have ry := hT.eval hy
  generalize ev T x' = u at h rx
  generalize ev T y' = u2 at h ry
  unfold eqvA at h
  split at h
  · rename_i xs ys
    simp only [Option.map_eq_some_iff] at h
    obtain ⟨r, hr, rfl⟩ := h
    obtain ⟨xs', hx', rx'⟩ := agg_inv rx
    obtain ⟨ys', hy', ry'⟩ := agg_inv ry
    have same : ∀ (s : List Nat) (l l2 m m2 : List Value) (r : Bool), eqCells s l l2 = some r → RelL E.lab φ l m → RelL E.lab φ l2 m2 → l = m ∧ l2 = m2 := by
      intro s
      induction s with
      | nil =>
        intro l l2 m m2 r h1 h2 h3
        obtain ⟨rfl, rfl, _⟩ := eqCells_nil h1
        exact ⟨h2.inv_nil.symm, h3.inv_nil.symm⟩
      | cons b s ih =>
        intro l l2 m m2 r h1 h2 h3
        obtain ⟨p, l', q, l2', e, r', rfl, rfl, h4, h5, _⟩ := eqCells_cons h1
        obtain ⟨p', m', rfl, hp, h2'⟩ := h2.inv_cons
        obtain ⟨q', m2', rfl, hq, h3'⟩ := h3.inv_cons
        obtain ⟨rfl, rfl⟩ := ih _ _ _ _ _ h5 h2' h3'
        rcases cellEq_kind h4 with rfl | rfl | rfl
        · obtain ⟨k, n1, n2, rfl, rfl, _⟩ := cellEq_int h4
          rw [int_inv hp, int_inv hq]; exact ⟨rfl, rfl⟩
        · obtain ⟨n1, n2, rfl, rfl, _⟩ := cellEq_bool h4
          rw [bool_inv hp, bool_inv hq]; exact ⟨rfl, rfl⟩
        · obtain ⟨n1, n2, rfl, rfl, _⟩ := cellEq_str h4
          rw [string_inv hp, string_inv hq]; exact ⟨rfl, rfl⟩
    obtain ⟨e1, e2⟩ := same _ _ _ _ _ _ hr rx' ry'
    rw [e1, e2] at hr
    have hq := equalIn_run (P := E.P) 20 t sh hi (.agg xs') (.agg ys') hu hu r hr 9980 w
    have hge := run_eqGuard_agg (P := E.P) w op t x y xs' ys' hg
    refine OpOk.of_pure hA hR (v' := .bool (if neg then !r else r)) ?_ (.bool _)
    subst hop
    cases neg
    · have := run_eql_struct (P := E.P) w t xs' ys'
      simp only [hq, Result.andThen_ok] at this
      simp only [Bool.false_eq_true, if_false] at hge ho ⊢
      simp [execOp, ho, hx', hy', hge, this]
    · have := run_neq_struct (P := E.P) w t xs' ys'
      simp only [hq, Result.andThen_ok] at this
      simp only [if_true] at hge ho ⊢
      simp [execOp, ho, hx', hy', hge, this]
  · cases h
theorem neg_ok {t : TypeId} {x : Operand} {x' : Opd} (ho : o.op = .unOp .neg t x) (hT : RelT E.lab φ nt T a.tmps) (hR : Rel E lim φ A w)
    (hx : compOpd E.lab nt x = some x') (h : pureV (negA (ev T x')) A = some (v, A')) : OpOk E lim o φ A w a g v A' := by
  obtain ⟨h, hA⟩ := pureV_some h
  have rx := hT.eval hx
  generalize ev T x' = u at h rx
  unfold negA at h
  split at h
  · cases h
    have := int_inv rx
    refine OpOk.of_pure hA hR (v' := .int _ _) ?_ (.int _ _)
    rw [wr_eq]
    simp [execOp, ho, this, Op.unary, Op.intArith]
  · cases h
theorem not_ok {t : TypeId} {x : Operand} {x' : Opd} (ho : o.op = .unOp .not t x) (hT : RelT E.lab φ nt T a.tmps) (hR : Rel E lim φ A w)
    (hx : compOpd E.lab nt x = some x') (h : pureV (notA (ev T x')) A = some (v, A')) : OpOk E lim o φ A w a g v A' := by
  obtain ⟨h, hA⟩ := pureV_some h
  have rx := hT.eval hx
  generalize ev T x' = u at h rx
  unfold notA at h
  split at h
  · cases h
    have := bool_inv rx
    refine OpOk.of_pure hA hR (v' := .bool _) ?_ (.bool _)
    simp [execOp, ho, this, Op.unary]
  · cases h
theorem toInt_ok {s d : TypeId} {k : IntKind} {ds : TypeDesc} {x : Operand} {x' : Opd} (ho : o.op = .convert s d x) (hs : E.P.underlying s = some ds) (hd : E.P.underlying d = some (.int k))
    (hT : RelT E.lab φ nt T a.tmps) (hR : Rel E lim φ A w) (hx : compOpd E.lab nt x = some x') (h : pureV (toIntA k (ev T x')) A = some (v, A')) : OpOk E lim o φ A w a g v A' := by
  obtain ⟨h, hA⟩ := pureV_some h
  have rx := hT.eval hx
  generalize ev T x' = u at h rx
  unfold toIntA at h
  split at h
  · cases h
    have := int_inv rx
    refine OpOk.of_pure hA hR (v' := .int _ _) ?_ (.int _ _)
    rw [wr_eq]
    simp [execOp, ho, this, convert, run_underlying hs, run_underlying hd, Conv.intToInt]
  · rename_i fk b
    split at h
    · rename_i n hn
      split at h
      · rename_i hr
        cases h
        have := float_inv rx
        refine OpOk.of_pure hA hR (v' := .int _ _) ?_ (.int _ _)
        simp [execOp, ho, this, convert, run_underlying hs, run_underlying hd, Conv.floatToInt, hn, hr]
      · cases h
    · cases h
  · cases h
theorem toF64_ok {s d : TypeId} {ds : TypeDesc} {x : Operand} {x' : Opd} (ho : o.op = .convert s d x) (hs : E.P.underlying s = some ds) (hd : E.P.underlying d = some (.float .f64))
    (hT : RelT E.lab φ nt T a.tmps) (hR : Rel E lim φ A w) (hx : compOpd E.lab nt x = some x') (h : pureV (toF64A (ev T x')) A = some (v, A')) : OpOk E lim o φ A w a g v A' := by
  obtain ⟨h, hA⟩ := pureV_some h
  have rx := hT.eval hx
  generalize ev T x' = u at h rx
  unfold toF64A at h
  split at h
  · cases h
    have := int_inv rx
    refine OpOk.of_pure hA hR (v' := .float _ _) ?_ (.float _ _)
    simp [execOp, ho, this, convert, run_underlying hs, run_underlying hd, Conv.intToFloat]
  · cases h
theorem makeFunc_ok {f : FuncId} {fs cs : Array Operand} {fs' cs' : List Opd} (ho : o.op = .makeFunc (.func f) fs cs) (hT : RelT E.lab φ nt T a.tmps) (hR : Rel E lim φ A w)
    (hf : compOpds E.lab nt fs.toList = some fs') (hcs : compOpds E.lab nt cs.toList = some cs')
    (h : some (Value.func (.func (E.lab f)) (fs'.map (ev T)).toArray (cs'.map (ev T)).toArray, A) = some (v, A')) : OpOk E lim o φ A w a g v A' := by
  cases h
  have r1 := hT.evals hf
  have r2 := hT.evals hcs
  refine OpOk.of_pure rfl hR (v' := .func (.func f) (fs.map a.eval) (cs.map a.eval)) ?_ ?_
  · simp [execOp, ho, Instr.makeFunc]
  · have e1 : (fs.map a.eval).toList = fs.toList.map a.eval := by simp
    have e2 : (cs.map a.eval).toList = cs.toList.map a.eval := by simp
    refine .func rfl ?_ ?_ ?_ ?_
    · have := r1.1; simpa using this
    · intro i p q h1 h2; exact r1.2 i p q (by simpa using h1) (by simpa using h2)
    · have := r2.1; simpa using this
    · intro i p q h1 h2; exact r2.2 i p q (by simpa using h1) (by simpa using h2)
theorem fieldAddr_ok {s : TypeId} {x : Operand} {x' : Opd} {f : Nat} {fs : Array Field} {fd : Field} {n : Nat} (ho : o.op = .fieldAddr s x f) (hu : E.P.underlying s = some (.struct fs)) (hf : fs[f]? = some fd)
    (hn : sz E.P fd.type = some n) (h0 : n ≠ 0) (hT : RelT E.lab φ nt T a.tmps) (hR : Rel E lim φ A w) (hx : compOpd E.lab nt x = some x')
    (h : pureV (fieldAddrA fd.offset (ev T x')) A = some (v, A')) : OpOk E lim o φ A w a g v A' := by
  obtain ⟨h, hA⟩ := pureV_some h
  have rx := hT.eval hx
  generalize ev T x' = u at h rx
  unfold fieldAddrA at h
  split at h
  · cases h
    obtain ⟨e, he, hx'⟩ := ptr_inv rx
    refine OpOk.of_pure hA hR (v' := .pointer (some ⟨e.blk, e.off + (_ + fd.offset), none⟩)) ?_ (.ptr he)
    simp [execOp, ho, hx', Instr.fieldAt, run_underlying hu, hf, Instr.sureAddr, fieldPlace, sizeOf_run hn, h0, Addr.add_lit, Nat.add_assoc]
  · cases h
theorem field_ok {s : TypeId} {x : Operand} {x' : Opd} {f : Nat} {fs : Array Field} {fd : Field} {n : Option Nat} (ho : o.op = .field s x f) (hu : E.P.underlying s = some (.struct fs)) (hf : fs[f]? = some fd)
    (hn : cellsA E.P fd.type = some n) (hT : RelT E.lab φ nt T a.tmps) (hR : Rel E lim φ A w) (hx : compOpd E.lab nt x = some x')
    (h : pureV (fieldA fd.offset n (ev T x')) A = some (v, A')) : OpOk E lim o φ A w a g v A' := by
  obtain ⟨h, hA⟩ := pureV_some h
  have rx := hT.eval hx
  generalize ev T x' = u at h rx
  unfold fieldA at h
  split at h
  · obtain ⟨ys, hx', ry⟩ := agg_inv rx
    obtain ⟨v', hv', hr⟩ := part_run hn h ry w
    refine OpOk.of_pure hA hR (v' := v') ?_ hr
    simp [execOp, ho, hx', Instr.field, run_underlying hu, hf, asAgg, hv']
  · cases h
theorem idxS_ok {t e : TypeId} {x i : Operand} {x' i' : Opd} {n : Nat} (ho : o.op = .indexAddr t x i) (hu : E.P.underlying t = some (.slice e)) (hn : sz E.P e = some n)
    (hT : RelT E.lab φ nt T a.tmps) (hR : Rel E lim φ A w) (hx : compOpd E.lab nt x = some x') (hi : compOpd E.lab nt i = some i')
    (h : pureV (idxSA n (ev T x') (ev T i')) A = some (v, A')) : OpOk E lim o φ A w a g v A' := by
  obtain ⟨h, hA⟩ := pureV_some h
  have rx := hT.eval hx
  have ri := hT.eval hi
  generalize ev T x' = u at h rx
  generalize ev T i' = u2 at h ri
  unfold idxSA at h
  split at h
  · rename_i b off es len c k j
    split at h
    · rename_i hj
      cases h
      obtain ⟨en, ad, q, he, hlq, _, hq, hx'⟩ := slice_inv rx
      have hi' := int_inv ri
      have hp : ad = ⟨en.blk, en.off + off, none⟩ := by
        rcases hq with hq | hq
        · omega
        · exact hq.1
      refine OpOk.of_pure hA hR (v' := .pointer (some ⟨en.blk, en.off + (off + j.toNat * n), none⟩)) ?_ (.ptr he)
      simp [execOp, ho, hx', hi', Instr.indexAt, run_underlying hu, asIntOf, hj, sizeOf_run hn, Addr.add_lit, hp, Nat.add_assoc]
    · cases h
  · cases h
theorem idxA_ok {t e : TypeId} {len : Nat} {x i : Operand} {x' i' : Opd} {n : Nat} (ho : o.op = .indexAddr t x i) (hu : E.P.underlying t = some (.array len e)) (hn : sz E.P e = some n)
    (hT : RelT E.lab φ nt T a.tmps) (hR : Rel E lim φ A w) (hx : compOpd E.lab nt x = some x') (hi : compOpd E.lab nt i = some i')
    (h : pureV (idxAA len n (ev T x') (ev T i')) A = some (v, A')) : OpOk E lim o φ A w a g v A' := by
  obtain ⟨h, hA⟩ := pureV_some h
  have rx := hT.eval hx
  have ri := hT.eval hi
  generalize ev T x' = u at h rx
  generalize ev T i' = u2 at h ri
  unfold idxAA at h
  split at h
  · rename_i b off k j
    split at h
    · rename_i hj
      cases h
      obtain ⟨en, he, hx'⟩ := ptr_inv rx
      have hi' := int_inv ri
      refine OpOk.of_pure hA hR (v' := .pointer (some ⟨en.blk, en.off + (off + j.toNat * n), none⟩)) ?_ (.ptr he)
      simp [execOp, ho, hx', hi', Instr.indexAt, run_underlying hu, asIntOf, hj, sizeOf_run hn, Addr.add_lit, Instr.sureAddr, Nat.add_assoc]
    · cases h
  · cases h
theorem index_ok {t e : TypeId} {len : Nat} {x i : Operand} {x' i' : Opd} {n : Nat} {ag : Bool} (ho : o.op = .index t x i) (hu : E.P.underlying t = some (.array len e)) (hn : sz E.P e = some n) (hag : isAggA E.P e = some ag)
    (hT : RelT E.lab φ nt T a.tmps) (hR : Rel E lim φ A w) (hx : compOpd E.lab nt x = some x') (hi : compOpd E.lab nt i = some i')
    (h : pureV (indexA len n ag (ev T x') (ev T i')) A = some (v, A')) : OpOk E lim o φ A w a g v A' := by
  obtain ⟨h, hA⟩ := pureV_some h
  have rx := hT.eval hx
  have ri := hT.eval hi
  generalize ev T x' = u at h rx
  generalize ev T i' = u2 at h ri
  unfold indexA at h
  split at h
  · rename_i cs k j
    split at h
    · rename_i hj
      obtain ⟨ys, hx', ry⟩ := agg_inv rx
      have hi' := int_inv ri
      have hc : cellsA E.P e = some (if ag then some n else none) := by unfold cellsA; rw [hag]; cases ag <;> simp [hn]
      obtain ⟨v', hv', hr⟩ := part_run hc h ry w
      refine OpOk.of_pure hA hR (v' := v') ?_ hr
      simp [execOp, ho, hx', hi', Instr.index, run_underlying hu, asIntOf, hj, sizeOf_run hn, hv']
    · cases h
  · cases h
theorem extract_ok {x : Operand} {x' : Opd} {i : Nat} (ho : o.op = .extract x i) (hT : RelT E.lab φ nt T a.tmps) (hR : Rel E lim φ A w)
    (hx : compOpd E.lab nt x = some x') (h : pureV (extractA i (ev T x')) A = some (v, A')) : OpOk E lim o φ A w a g v A' := by
  obtain ⟨h, hA⟩ := pureV_some h
  have rx := hT.eval hx
  generalize ev T x' = u at h rx
  unfold extractA at h
  split at h
  · obtain ⟨ys, hx', ry⟩ := tuple_inv rx
    obtain ⟨v', hv', hr⟩ := ry.get h
    refine OpOk.of_pure hA hR (v' := v') ?_ hr
    simp at hv'
    simp [execOp, ho, hx', Instr.extract, hv']
  · cases h
theorem bound_rel {T : List Value} {d : Nat} {x : Option Operand} {x' : Option Opd} {n : Int} (hT : RelT E.lab φ nt T a.tmps) (hx : compOptOpd E.lab nt x = some x')
    (h : boundA T d x' = some n) : (x = none ∧ n = d) ∨ ∃ y k, x = some y ∧ a.eval y = .int k n := by
  cases x with
  | none => simp [compOptOpd] at hx; subst hx; simp [boundA] at h; exact .inl ⟨rfl, h.symm⟩
  | some y =>
    simp only [compOptOpd, Option.map_eq_some_iff] at hx
    obtain ⟨y', hy', rfl⟩ := hx
    have r := hT.eval hy'
    simp only [boundA, intOfA] at h
    split at h
    · rename_i k i heq
      cases h
      rw [heq] at r
      exact .inr ⟨y, k, rfl, int_inv r⟩
    · cases h
theorem sliceBounds_run {P : Program} {len cap : Nat} {l h : Int} {lo hi : Option Value} (hlo : (lo = none ∧ l = 0) ∨ ∃ k, lo = some (.int k l))
    (hhi : (hi = none ∧ h = len) ∨ ∃ k, hi = some (.int k h)) (h0 : 0 ≤ l) (h1 : l ≤ h) (h2 : h ≤ cap) (w : World) :
    (Instr.sliceBounds true len cap lo hi none).run P w = .ok (l.toNat, h.toNat, cap) w := by
  rcases hlo with ⟨rfl, rfl⟩ | ⟨k, rfl⟩
  · rcases hhi with ⟨rfl, rfl⟩ | ⟨k', rfl⟩
    · simp [Instr.sliceBounds]
    · simp [Instr.sliceBounds, Instr.sliceBound, asIntOf, show 0 ≤ h by omega, h2]
  · rcases hhi with ⟨rfl, rfl⟩ | ⟨k', rfl⟩
    · simp [Instr.sliceBounds, Instr.sliceBound, asIntOf, h0, h1]
    · simp [Instr.sliceBounds, Instr.sliceBound, asIntOf, h0, show 0 ≤ h by omega, h2, show l ≤ max h 0 by omega]
theorem reslice_ok {t e : TypeId} {x : Operand} {x' : Opd} {lo hi : Option Operand} {lo' hi' : Option Opd} {n : Nat} (ho : o.op = .slice t x lo hi none) (hu : E.P.underlying t = some (.slice e)) (hn : sz E.P e = some n)
    (hT : RelT E.lab φ nt T a.tmps) (hR : Rel E lim φ A w) (hx : compOpd E.lab nt x = some x') (hlo : compOptOpd E.lab nt lo = some lo') (hhi : compOptOpd E.lab nt hi = some hi')
    (h : pureV (resliceA n (ev T x') (boundA T 0 lo') (fun n => boundA T n hi')) A = some (v, A')) : OpOk E lim o φ A w a g v A' := by
  obtain ⟨h, hA⟩ := pureV_some h
  have rx := hT.eval hx
  generalize ev T x' = u at h rx
  have mapb : ∀ {d : Nat} {y : Option Operand} {m : Int}, ((y = none ∧ m = d) ∨ ∃ z k, y = some z ∧ a.eval z = .int k m) → (y.map a.eval = none ∧ m = d) ∨ ∃ k, y.map a.eval = some (.int k m) := by
    rintro d y m (⟨rfl, rfl⟩ | ⟨z, k, rfl, hz⟩)
    · exact .inl ⟨rfl, rfl⟩
    · exact .inr ⟨k, by simp [hz]⟩
  unfold resliceA at h
  split at h
  · rename_i b off s len c
    split at h
    · rename_i l hh hl0 hh0
      split at h
      · rename_i hb
        obtain ⟨rfl, h0, h1, h2⟩ := hb
        cases h
        obtain ⟨en, ad, q, he, hlq, hcq, hq, hx'⟩ := slice_inv rx
        have hl := mapb (bound_rel hT hlo hl0)
        have hhb := mapb (bound_rel hT hhi hh0)
        have hhq : hh ≤ q := by omega
        have hrun := sliceBounds_run (P := E.P) (len := len) (cap := q) (lo := lo.map a.eval) (hi := hi.map a.eval) hl hhb h0 h1 hhq w
        refine OpOk.of_pure hA hR (v' := .slice (some (if q = l.toNat then ad else ad.add (l.toNat * s))) (hh.toNat - l.toNat) (q - l.toNat)) ?_ ?_
        · simp only [execOp, ho, hx', Option.map_none, Instr.sliceAt, Instr.slice, Sem.run_bind, run_underlying hu, Result.andThen_ok, hrun, sizeOf_run hn, Sem.run_pure]
          split <;> simp [Addr.add_lit]
        · have e1 : (hh - l).toNat = hh.toNat - l.toNat := by omega
          rw [e1]
          refine .slice he (by omega) (by omega) ?_
          by_cases hql : q = l.toNat
          · left; omega
          · right
            rcases hq with hq | ⟨hp, hs⟩
            · omega
            · simp only [if_neg hql]
              refine ⟨by rw [hp, Addr.add_lit, Nat.add_assoc], ?_⟩
              have : l.toNat * s + (q - l.toNat) * s = q * s := by rw [← Nat.add_mul]; congr 1; omega
              omega
      · cases h
    · cases h
  · split at h
    · rename_i l hh hl0 hh0
      split at h
      · rename_i hb
        obtain ⟨rfl, rfl⟩ := hb
        cases h
        obtain ⟨_, _, hx'⟩ := nilSlice_inv rx
        have hl := mapb (bound_rel hT hlo hl0)
        have hhb := mapb (bound_rel hT hhi hh0)
        have hrun := sliceBounds_run (P := E.P) (len := 0) (cap := 0) (lo := lo.map a.eval) (hi := hi.map a.eval) hl hhb (Int.le_refl 0) (Int.le_refl 0) (by simp) w
        refine OpOk.of_pure hA hR (v' := .slice none 0 0) ?_ .nilSlice
        simp only [execOp, ho, hx', Option.map_none, Instr.sliceAt, Instr.slice, Sem.run_bind, run_underlying hu, Result.andThen_ok, hrun, sizeOf_run hn, Sem.run_pure]
        simp
      · cases h
    · cases h
  · cases h
theorem reslice3_ok {t e : TypeId} {x lo hi mx : Operand} {x' lo' hi' mx' : Opd} {n : Nat} (ho : o.op = .slice t x (some lo) (some hi) (some mx)) (hu : E.P.underlying t = some (.slice e)) (hn : sz E.P e = some n)
    (hT : RelT E.lab φ nt T a.tmps) (hR : Rel E lim φ A w) (hx : compOpd E.lab nt x = some x') (hlo : compOpd E.lab nt lo = some lo') (hhi : compOpd E.lab nt hi = some hi') (hmx : compOpd E.lab nt mx = some mx')
    (h : pureV (reslice3A n (ev T x') (ev T lo') (ev T hi') (ev T mx')) A = some (v, A')) : OpOk E lim o φ A w a g v A' := by
  obtain ⟨h, hA⟩ := pureV_some h
  have rx := hT.eval hx
  have rl := hT.eval hlo
  have rh := hT.eval hhi
  have rm := hT.eval hmx
  generalize ev T x' = u at h rx
  generalize ev T lo' = ul at h rl
  generalize ev T hi' = uh at h rh
  generalize ev T mx' = um at h rm
  unfold reslice3A at h
  split at h
  · rename_i b off s len c k1 l k2 hh k3 m
    split at h
    · rename_i hb
      obtain ⟨rfl, h0, h1, h2, h3⟩ := hb
      cases h
      obtain ⟨en, ad, q, he, hlq, hcq, hq, hx'⟩ := slice_inv rx
      have hl' := int_inv rl
      have hh' := int_inv rh
      have hm' := int_inv rm
      have hmq : m ≤ q := by omega
      have hrun : (Instr.sliceBounds true len q (some (.int k1 l)) (some (.int k2 hh)) (some (.int k3 m))).run E.P w = .ok (l.toNat, hh.toNat, m.toNat) w := by
        simp [Instr.sliceBounds, Instr.sliceBound, asIntOf, h0, show 0 ≤ hh by omega, show 0 ≤ m by omega, hmq, show hh ≤ max m 0 by omega, show l ≤ max hh 0 by omega]
      refine OpOk.of_pure hA hR (v' := .slice (some (if m.toNat = l.toNat then ad else ad.add (l.toNat * s))) (hh.toNat - l.toNat) (m.toNat - l.toNat)) ?_ ?_
      · simp only [execOp, ho, hx', hl', hh', hm', Option.map_some, Instr.sliceAt, Instr.slice, Sem.run_bind, run_underlying hu, Result.andThen_ok, hrun, sizeOf_run hn, Sem.run_pure]
        split <;> simp [Addr.add_lit]
      · have e1 : (hh - l).toNat = hh.toNat - l.toNat := by omega
        have e2 : (m - l).toNat = m.toNat - l.toNat := by omega
        rw [e1, e2]
        refine .slice he (by omega) (Nat.le_refl _) ?_
        by_cases hql : m.toNat = l.toNat
        · left; omega
        · right
          rcases hq with hq | ⟨hp, hs⟩
          · omega
          · simp only [if_neg hql]
            refine ⟨by rw [hp, Addr.add_lit, Nat.add_assoc], ?_⟩
            have e3 : l.toNat * s + (m.toNat - l.toNat) * s = m.toNat * s := by rw [← Nat.add_mul]; congr 1; omega
            have e4 : m.toNat * s ≤ q * s := Nat.mul_le_mul_right _ (by omega)
            omega
    · cases h
  · split at h
    · rename_i hb
      obtain ⟨rfl, rfl, rfl⟩ := hb
      cases h
      obtain ⟨_, _, hx'⟩ := nilSlice_inv rx
      have hl' := int_inv rl
      have hh' := int_inv rh
      have hm' := int_inv rm
      refine OpOk.of_pure hA hR (v' := .slice none 0 0) ?_ .nilSlice
      simp [execOp, ho, hx', hl', hh', hm', Instr.sliceAt, Instr.slice, run_underlying hu, Instr.sliceBounds, Instr.sliceBound, asIntOf, sizeOf_run hn]
    · cases h
  · cases h
theorem len_ok {c : Call} {t e : TypeId} {x : Operand} {x' : Opd} (ho : o.op = .call c) (hcal : c.callee = .builtin .len) (hargs : c.args.toList = [x]) (hts : c.argTypes.toList = [t])
    (hu : E.P.underlying t = some (.slice e)) (hT : RelT E.lab φ nt T a.tmps) (hR : Rel E lim φ A w)
    (hx : compOpd E.lab nt x = some x') (h : pureV (lenV (ev T x')) A = some (v, A')) : OpOk E lim o φ A w a g v A' := by
  obtain ⟨h, hA⟩ := pureV_some h
  have rx := hT.eval hx
  generalize ev T x' = u at h rx
  obtain ⟨cal, args, ats⟩ := c
  simp only at hcal hargs hts
  subst hcal
  obtain rfl : args = #[x] := by apply Array.toList_inj.1; simpa using hargs
  obtain rfl : ats = #[t] := by apply Array.toList_inj.1; simpa using hts
  unfold lenV at h
  split at h
  · cases h
    generalize hu' : a.eval x = u' at rx
    cases rx with
    | nilSlice =>
      refine OpOk.of_pure hA hR (v' := goInt (0 : Nat)) ?_ (.int _ _)
      simp [execOp, ho, resolve, invoke, builtin, hu', Builtin.len_, run_underlying hu]
    | slice hh hn hc hq =>
      refine OpOk.of_pure hA hR (v' := goInt _) ?_ (.int _ _)
      simp [execOp, ho, resolve, invoke, builtin, hu', Builtin.len_, run_underlying hu]
  · cases h
theorem lenT_ok {c : Call} {t : TypeId} {x : Operand} {x' : Opd} (ho : o.op = .call c) (hcal : c.callee = .builtin .len) (hargs : c.args.toList = [x]) (hts : c.argTypes.toList = [t])
    (hu : E.P.underlying t = some .string) (hT : RelT E.lab φ nt T a.tmps) (hR : Rel E lim φ A w)
    (hx : compOpd E.lab nt x = some x') (h : pureV (lenTV (ev T x')) A = some (v, A')) : OpOk E lim o φ A w a g v A' := by
  obtain ⟨h, hA⟩ := pureV_some h
  have rx := hT.eval hx
  generalize ev T x' = u at h rx
  obtain ⟨cal, args, ats⟩ := c
  simp only at hcal hargs hts
  subst hcal
  obtain rfl : args = #[x] := by apply Array.toList_inj.1; simpa using hargs
  obtain rfl : ats = #[t] := by apply Array.toList_inj.1; simpa using hts
  unfold lenTV at h
  split at h
  · cases h
    have hx' := string_inv rx
    refine OpOk.of_pure hA hR (v' := goInt _) ?_ (.int _ _)
    simp [execOp, ho, resolve, invoke, builtin, hx', Builtin.len_, run_underlying hu]
  · cases h
theorem fold_run {P : Program} {pick : Int → Int → Bool} {f : Value → Value → Sem Value} (hf : ∀ k k' x y, f (.int k x) (.int k' y) = pure (.int k (if pick y x then y else x))) (w : World) :
    ∀ {l l' : List Value} {x x' r : Value}, foldInt pick x l = some r → RelV E.lab φ x x' → RelL E.lab φ l l' → ∃ r', (l'.foldlM f x').run P w = .ok r' w ∧ RelV E.lab φ r r' := by
  intro l
  induction l with
  | nil =>
    intro l' x x' r h hx hl
    obtain rfl := hl.inv_nil
    simp [foldInt] at h
    subst h
    exact ⟨x', by simp, hx⟩
  | cons y l ih =>
    intro l' x x' r h hx hl
    obtain ⟨y', l'', rfl, hy, hl'⟩ := hl.inv_cons
    unfold foldInt at h
    split at h
    · rename_i heq; cases heq
    · rename_i k m k' n rest heq
      cases heq
      rw [int_inv hx, int_inv hy]
      obtain ⟨r', h1, h2⟩ := ih h (.int _ _) hl'
      exact ⟨r', by simpa [List.foldlM_cons, hf] using h1, h2⟩
    · cases h
theorem minmax_ok {c : Call} {mx : Bool} {l' : List Opd} (ho : o.op = .call c) (hcal : c.callee = .builtin (if mx then .max else .min)) (hT : RelT E.lab φ nt T a.tmps) (hR : Rel E lim φ A w)
    (hx : compOpds E.lab nt c.args.toList = some l') (h : pureV ((if mx then maxA else minA) (l'.map (ev T))) A = some (v, A')) : OpOk E lim o φ A w a g v A' := by
  obtain ⟨h, hA⟩ := pureV_some h
  have rl := hT.evals hx
  generalize l'.map (ev T) = us at h rl
  cases us with
  | nil => cases mx <;> simp [maxA, minA] at h
  | cons u us =>
    obtain ⟨u', us', he, hu, hus⟩ := rl.inv_cons
    obtain ⟨cal, args, ats⟩ := c
    simp only at hcal he
    subst hcal
    have hargs : (args.map a.eval).toList = u' :: us' := by simpa using he
    cases mx
    · obtain ⟨r', h1, h2⟩ := fold_run (P := E.P) (f := Builtin.min2) (pick := fun y x => decide (y < x)) (fun k k' x y => by simp [Builtin.min2]) w (by simpa [minA] using h) hu hus
      refine OpOk.of_pure hA hR (v' := r') ?_ h2
      simp [execOp, ho, resolve, invoke, builtin, Builtin.min_, he, h1]
    · obtain ⟨r', h1, h2⟩ := fold_run (P := E.P) (f := Builtin.max2) (pick := fun y x => decide (y > x)) (fun k k' x y => by simp [Builtin.max2]) w (by simpa [maxA] using h) hu hus
      refine OpOk.of_pure hA hR (v' := r') ?_ h2
      simp [execOp, ho, resolve, invoke, builtin, Builtin.max_, he, h1]
end
end Go.Ab
namespace Go.Ab
theorem setRange_length {cs vs : List Value} {o : Nat} (h : o + vs.length ≤ cs.length) : (setRange cs o vs).length = cs.length := by
  simp [setRange]; omega
theorem setRange_get {cs vs : List Value} {o : Nat} (h : o + vs.length ≤ cs.length) (i : Nat) :
    (setRange cs o vs)[i]? = if o ≤ i ∧ i < o + vs.length then vs[i - o]? else cs[i]? := by
  unfold setRange
  by_cases h1 : i < o
  · rw [if_neg (by omega), List.append_assoc, List.getElem?_append_left (by simp; omega), List.getElem?_take, if_pos h1]
  · by_cases h2 : i < o + vs.length
    · rw [if_pos (by omega), List.append_assoc, List.getElem?_append_right (by simp; omega), List.getElem?_append_left (by simp; omega)]
      congr 1
      simp; omega
    · rw [if_neg (by omega), List.getElem?_append_right (by simp; omega)]
      simp only [List.length_append, List.length_take, List.getElem?_drop]
      congr 1
      omega
theorem foldSet_get (off : Nat) : ∀ (l : List Value) (k : Nat) (cells : Array Value) (i : Nat),
    ((l.zipIdx k).foldl (fun cs (x : Value × Nat) => cs.setIfInBounds (off + x.2) x.1) cells)[i]? = if off + k ≤ i ∧ i < off + k + l.length ∧ i < cells.size then l[i - (off + k)]? else cells[i]? := by
  intro l
  induction l with
  | nil => intro k cells i; simp; intro h1 h2; omega
  | cons v l ih =>
    intro k cells i
    rw [List.zipIdx_cons, List.foldl_cons, ih]
    simp only [Array.size_setIfInBounds, List.length_cons]
    by_cases h : i = off + k
    · subst h
      rw [if_neg (by omega)]
      by_cases hs : off + k < cells.size
      · rw [if_pos (by omega)]; simp [hs]
      · rw [if_neg (by omega)]; simp [hs]
    · rw [Array.getElem?_setIfInBounds_ne (Ne.symm h)]
      by_cases h2 : off + (k + 1) ≤ i ∧ i < off + (k + 1) + l.length ∧ i < cells.size
      · rw [if_pos h2, if_pos (by omega), show i - (off + k) = (i - (off + (k + 1))) + 1 by omega, List.getElem?_cons_succ]
      · rw [if_neg h2, if_neg (by omega)]
theorem foldSet_toList (off : Nat) (v : Value) (cells : Array Value) (h : off + v.cells.size ≤ cells.size) :
    (v.cells.zipIdx.foldl (fun cs (x : Value × Nat) => cs.setIfInBounds (off + x.2) x.1) cells).toList = setRange cells.toList off v.cells.toList := by
  apply List.ext_getElem?
  intro i
  rw [setRange_get (by simpa using h)]
  have e : v.cells.zipIdx.foldl (fun cs (x : Value × Nat) => cs.setIfInBounds (off + x.2) x.1) cells = (v.cells.toList.zipIdx 0).foldl (fun cs (x : Value × Nat) => cs.setIfInBounds (off + x.2) x.1) cells := by
    rw [← Array.foldl_toList]
    simp
  rw [e, Array.getElem?_toList, foldSet_get]
  simp only [Nat.add_zero, Array.length_toList, Array.getElem?_toList]
  by_cases h1 : off ≤ i ∧ i < off + v.cells.size
  · rw [if_pos (by omega), if_pos h1]
  · rw [if_neg (by omega), if_neg h1]
section
variable {E : Env} {nt lim : Nat} {T : List Value} {A A' : Hp} {φ : NM} {w : World} {a : Act} {g : Nat} {v : Value} {o : Oper} {cv : CallFn}
theorem RelL.setRange {lab : Nat → Nat} {φ : NM} {xs ys vs ws : List Value} {o : Nat} (h : RelL lab φ xs ys) (hv : RelL lab φ vs ws) : RelL lab φ (setRange xs o vs) (setRange ys o ws) := by
  unfold Ab.setRange
  rw [hv.1]
  exact ((h.take o).append hv).append (h.drop _)
theorem fill_rel {place : Nat → Option (Nat × Nat)} : ∀ {parts : List (Nat × Operand)} {ps : List (Nat × Nat × Opd)} {cells : List Value} {zs : Array Value} {cs : List Value},
    (∀ (i : Nat) (p : Nat × Operand) (q : Nat × Nat × Opd), parts[i]? = some p → ps[i]? = some q → place p.1 = some (q.1, q.2.1) ∧ RelV E.lab φ (ev T q.2.2) (a.eval p.2)) → parts.length = ps.length →
    fillA cells (ps.map fun p => (p.1, p.2.1, ev T p.2.2)) = some cs → RelL E.lab φ cells zs.toList →
    ∃ cs', Instr.fill place zs (parts.map fun p => (p.1, a.eval p.2)) = some cs' ∧ RelL E.lab φ cs cs'.toList := by
  intro parts
  induction parts with
  | nil =>
    intro ps cells zs cs _ hl h hr
    obtain rfl : ps = [] := List.eq_nil_of_length_eq_zero (by simpa using hl.symm)
    simp [fillA] at h
    subst h
    exact ⟨zs, by simp [Instr.fill], hr⟩
  | cons p parts ih =>
    intro ps cells zs cs hp hl h hr
    cases ps with
    | nil => simp at hl
    | cons q ps =>
      obtain ⟨hplace, hv⟩ := hp 0 p q rfl rfl
      simp only [List.map_cons, fillA] at h
      split at h
      · rename_i hc
        have hcl := hv.cells
        have hsz : (a.eval p.2).cells.size = q.2.1 := by have := hcl.1; simp only [Array.length_toList] at this hc; omega
        have hcs : cells.length = zs.size := by have := hr.1; simpa using this
        have hle : q.1 + (a.eval p.2).cells.size ≤ zs.size := by omega
        have hrel : RelL E.lab φ (Ab.setRange cells q.1 (ev T q.2.2).cells.toList) ((a.eval p.2).cells.zipIdx.foldl (fun cs (x : Value × Nat) => cs.setIfInBounds (q.1 + x.2) x.1) zs).toList := by
          rw [foldSet_toList _ _ _ hle]
          exact hr.setRange hcl
        obtain ⟨cs', h1, h2⟩ := ih (fun i p' q' h1 h2 => hp (i + 1) p' q' (by simpa using h1) (by simpa using h2)) (by simpa using hl) h hrel
        refine ⟨cs', ?_, h2⟩
        simp only [List.map_cons, Instr.fill, hplace]
        rw [if_neg (by simp [hsz]; omega)]
        exact h1
      · cases h
theorem compParts_spec {P : Program} {lab : Nat → Nat} {nt : Nat} {t : TypeId} : ∀ {parts : List (Nat × Operand)} {ps : List (Nat × Nat × Opd)}, compParts P lab nt t parts = some ps →
    parts.length = ps.length ∧ ∀ (i : Nat) (p : Nat × Operand) (q : Nat × Nat × Opd), parts[i]? = some p → ps[i]? = some q → partPlace P t p.1 = some (q.1, q.2.1) ∧ compOpd lab nt p.2 = some q.2.2 := by
  intro parts
  induction parts with
  | nil => intro ps h; simp [compParts] at h; subst h; simp
  | cons p parts ih =>
    intro ps h
    obtain ⟨i, x⟩ := p
    simp only [compParts] at h
    split at h
    · rename_i o s y r h1 h2 h3
      cases h
      obtain ⟨hl, hs⟩ := ih h3
      refine ⟨by simp [hl], fun j p' q' hp hq => ?_⟩
      cases j with
      | zero => simp at hp hq; subst hp; subst hq; exact ⟨h1, h2⟩
      | succ j => simp at hp hq; exact hs j p' q' hp hq
    · cases h
theorem build_ok {t : TypeId} {parts : Array (Nat × Operand)} {z : List Value} {ps : List (Nat × Nat × Opd)} (ho : o.op = .build t parts) (hz : zeroOf E.P t = some z)
    (hp : compParts E.P E.lab nt t parts.toList = some ps) (hs : allSized E.P t = true) (hT : RelT E.lab φ nt T a.tmps) (hR : Rel E lim φ A w)
    (h : pureV ((fillA z (ps.map fun p => (p.1, p.2.1, ev T p.2.2))).map fun cs => .agg cs.toArray) A = some (v, A')) : OpOk E lim o φ A w a g v A' := by
  obtain ⟨h, hA⟩ := pureV_some h
  simp only [Option.map_eq_some_iff] at h
  obtain ⟨cs, hcs, rfl⟩ := h
  obtain ⟨i, u, hi, hu, hz1, hz2, hz3⟩ := zeroOf_inv hz
  obtain ⟨hl, hsp⟩ := compParts_spec hp
  have hrz : RelL E.lab φ z u.cells.toList := by rw [hz1]; exact relL_simple hz2
  have hparts : (parts.map fun (i, x) => (i, a.eval x)).toList = parts.toList.map fun p => (p.1, a.eval p.2) := by simp
  have done : ∀ place : Nat → Option (Nat × Nat), (∀ i q, partPlace E.P t i = some q → place i = some q) → ∃ cs', Instr.fill place u.cells ((parts.map fun (i, x) => (i, a.eval x)).toList) = some cs' ∧ RelL E.lab φ cs cs'.toList := by
    intro place hpl
    rw [hparts]
    exact fill_rel (fun i p q h1 h2 => ⟨hpl _ _ (hsp i p q h1 h2).1, hT.eval (hsp i p q h1 h2).2⟩) hl hcs hrz
  unfold allSized at hs
  cases hd : E.P.underlying t with
  | none => simp [hd] at hs
  | some d =>
    cases d <;> simp only [hd] at hs <;> try (cases hs; done)
    ·
      rename_i len e
      obtain ⟨s, hse⟩ := Option.isSome_iff_exists.1 hs
      obtain ⟨cs', h1, h2⟩ := done (fun i => some (i * s, s)) (fun i q hq => by simp [partPlace, hd, hse] at hq; rw [hq])
      refine OpOk.of_pure hA hR (v' := .agg cs') ?_ (RelL.agg (by simpa using h2))
      simp only [execOp, ho, Instr.build, Sem.run_bind, zeroValue_run hi hu, run_underlying hd, sizeOf_run hse, Result.andThen_ok, h1, Sem.run_pure]
    ·
      rename_i fs
      have hplaces : (fs.mapM fun f => do pure (f.offset, ← sizeOf f.type) : Sem (Array (Nat × Nat))).run E.P w = .ok (fs.map fun f => (f.offset, (sz E.P f.type).getD 0)) w := by
        have key : ∀ l : List Field, (∀ f ∈ l, (sz E.P f.type).isSome = true) → (l.mapM fun f => do pure (f.offset, ← sizeOf f.type) : Sem (List (Nat × Nat))).run E.P w = .ok (l.map fun f => (f.offset, (sz E.P f.type).getD 0)) w := by
          intro l
          induction l with
          | nil => intro _; simp
          | cons f l ih =>
            intro hl
            obtain ⟨s, hs⟩ := Option.isSome_iff_exists.1 (hl f (by simp))
            have := ih (fun g hg => hl g (by simp [hg]))
            simp only [List.mapM_cons, Sem.run_bind, sizeOf_run hs, Result.andThen_ok, Sem.run_pure, this, List.map_cons, hs, Option.getD_some]
        have := key fs.toList (fun f hf => List.all_eq_true.1 hs f hf)
        rw [Array.mapM_eq_mapM_toList]
        simp only [Sem.run_map, this, Result.andThen_ok]
        congr 1
        apply Array.toList_inj.1
        simp
      obtain ⟨cs', h1, h2⟩ := done ((fs.map fun f => (f.offset, (sz E.P f.type).getD 0))[·]?) (fun i q hq => by
        simp only [partPlace, hd] at hq
        split at hq
        · rename_i f hf
          simp only [Option.map_eq_some_iff] at hq
          obtain ⟨s, hs, rfl⟩ := hq
          simp [hf, hs]
        · cases hq)
      refine OpOk.of_pure hA hR (v' := .agg cs') ?_ (RelL.agg (by simpa using h2))
      simp only [execOp, ho, Instr.build, Sem.run_bind, zeroValue_run hi hu, run_underlying hd, hplaces, Result.andThen_ok, h1, Sem.run_pure]
theorem eq_pointer {P : Program} {t e : TypeId} (h : P.underlying t = some (.pointer e)) (x : Option Addr) (w : World) : (Op.equal t (.pointer x) (.pointer none)).run P w = .ok x.isNone w := by
  have : ∀ d, (Op.equalIn (d + 1) t (.pointer x) (.pointer none)).run P w = .ok x.isNone w := fun d => by cases x <;> simp [Op.equalIn, run_underlying h]
  exact this 9999
theorem eq_slice {P : Program} {t e : TypeId} (h : P.underlying t = some (.slice e)) (x : Option Addr) (n c : Nat) (w : World) : (Op.equal t (.slice x n c) (.slice none 0 0)).run P w = .ok x.isNone w := by
  have : ∀ d, (Op.equalIn (d + 1) t (.slice x n c) (.slice none 0 0)).run P w = .ok x.isNone w := fun d => by cases x <;> simp [Op.equalIn, run_underlying h]
  exact this 9999
theorem eq_func {P : Program} {t : TypeId} {p q : Array TypeId} {r : Bool} (h : P.underlying t = some (.func p q r)) (f : Fn) (xs ys : Array Value) (w : World) : (Op.equal t (.func f xs ys) .nilFunc).run P w = .ok false w := by
  have : ∀ d, (Op.equalIn (d + 1) t (.func f xs ys) .nilFunc).run P w = .ok false w := fun d => by simp [Op.equalIn, run_underlying h]
  exact this 9999
theorem eq_nilFunc {P : Program} {t : TypeId} {p q : Array TypeId} {r : Bool} (h : P.underlying t = some (.func p q r)) (w : World) : (Op.equal t .nilFunc .nilFunc).run P w = .ok true w := by
  have : ∀ d, (Op.equalIn (d + 1) t .nilFunc .nilFunc).run P w = .ok true w := fun d => by simp [Op.equalIn, run_underlying h]
  exact this 9999
theorem eq_map {P : Program} {t p q : TypeId} (h : P.underlying t = some (.map p q)) (x : Option Nat) (w : World) : (Op.equal t (.map x) (.map none)).run P w = .ok x.isNone w := by
  have : ∀ d, (Op.equalIn (d + 1) t (.map x) (.map none)).run P w = .ok x.isNone w := fun d => by cases x <;> simp [Op.equalIn, run_underlying h]
  exact this 9999
theorem eqNil_fin {op : BinOp} {neg : Bool} {t t' : TypeId} {x y : Operand} {r : Bool} (ho : o.op = .binOp op t x y t') (hop : op = if neg then .neq else .eql) (hR : Rel E lim φ A w) (hA : A = A')
    (he : (Op.equal t (a.eval x) (a.eval y)).run E.P w = .ok r w) (hg : eqGuard op t x y (a.eval x) (a.eval y) = pure ())
    (h1 : binOp .eql t (a.eval x) (a.eval y) = (do pure (.bool (← Op.equal t (a.eval x) (a.eval y))))) (h2 : binOp .neq t (a.eval x) (a.eval y) = (do pure (.bool (!(← Op.equal t (a.eval x) (a.eval y)))))) :
    OpOk E lim o φ A w a g (.bool (if neg then !r else r)) A' := by
  refine OpOk.of_pure hA hR (v' := .bool (if neg then !r else r)) ?_ (.bool _)
  subst hop
  cases neg
  · simp only [Bool.false_eq_true, if_false] at hg ho ⊢
    simp [execOp, ho, hg, h1, he]
  · simp only [if_true] at hg ho ⊢
    simp [execOp, ho, hg, h2, he]
theorem eqNil_ok0 {op : BinOp} {neg : Bool} {t t' e : TypeId} {x : Operand} {x' : Opd} (ho : o.op = .binOp op t x (.const (.pointer none)) t') (hop : op = if neg then .neq else .eql)
    (hu : E.P.underlying t = some (.pointer e)) (hT : RelT E.lab φ nt T a.tmps) (hR : Rel E lim φ A w) (hx : compOpd E.lab nt x = some x')
    (h : pureV (eqNilA 0 neg (ev T x')) A = some (v, A')) : OpOk E lim o φ A w a g v A' := by
  obtain ⟨h, hA⟩ := pureV_some h
  have rx := hT.eval hx
  generalize ev T x' = u at h rx
  simp only [eqNilA, Option.map_eq_some_iff] at h
  obtain ⟨r, hr, rfl⟩ := h
  have fin := @eqNil_fin E lim A A' φ w a g o op neg t t' x (.const (.pointer none)) r ho hop hR hA
  generalize hu' : a.eval x = u' at rx fin
  unfold isNil at hr
  split at hr <;> simp at hr
  · subst hr
    cases rx
    exact fin (eq_pointer hu _ _) (eqGuard_at_pointer _ _ _ _ _ _) rfl rfl
  · subst hr
    cases rx
    exact fin (eq_pointer hu _ _) (eqGuard_at_pointer _ _ _ _ _ _) rfl rfl
theorem eqNil_ok1 {op : BinOp} {neg : Bool} {t t' e : TypeId} {x : Operand} {x' : Opd} (ho : o.op = .binOp op t x (.const (.slice none 0 0)) t') (hop : op = if neg then .neq else .eql)
    (hu : E.P.underlying t = some (.slice e)) (hT : RelT E.lab φ nt T a.tmps) (hR : Rel E lim φ A w) (hx : compOpd E.lab nt x = some x')
    (h : pureV (eqNilA 1 neg (ev T x')) A = some (v, A')) : OpOk E lim o φ A w a g v A' := by
  obtain ⟨h, hA⟩ := pureV_some h
  have rx := hT.eval hx
  generalize ev T x' = u at h rx
  simp only [eqNilA, Option.map_eq_some_iff] at h
  obtain ⟨r, hr, rfl⟩ := h
  have fin := @eqNil_fin E lim A A' φ w a g o op neg t t' x (.const (.slice none 0 0)) r ho hop hR hA
  generalize hu' : a.eval x = u' at rx fin
  unfold isNil at hr
  split at hr <;> simp at hr
  · subst hr
    cases rx
    exact fin (eq_slice hu _ _ _ _) (eqGuard_at_slice _ _ _ _ _ _ _ _) rfl rfl
  · subst hr
    cases rx
    exact fin (eq_slice hu _ _ _ _) (eqGuard_at_slice _ _ _ _ _ _ _ _) rfl rfl
theorem eqNil_ok2 {op : BinOp} {neg : Bool} {t t' : TypeId} {p q : Array TypeId} {rr : Bool} {x : Operand} {x' : Opd} (ho : o.op = .binOp op t x (.const .nilFunc) t') (hop : op = if neg then .neq else .eql)
    (hu : E.P.underlying t = some (.func p q rr)) (hT : RelT E.lab φ nt T a.tmps) (hR : Rel E lim φ A w) (hx : compOpd E.lab nt x = some x')
    (h : pureV (eqNilA 2 neg (ev T x')) A = some (v, A')) : OpOk E lim o φ A w a g v A' := by
  obtain ⟨h, hA⟩ := pureV_some h
  have rx := hT.eval hx
  generalize ev T x' = u at h rx
  simp only [eqNilA, Option.map_eq_some_iff] at h
  obtain ⟨r, hr, rfl⟩ := h
  have fin := @eqNil_fin E lim A A' φ w a g o op neg t t' x (.const .nilFunc) r ho hop hR hA
  generalize hu' : a.eval x = u' at rx fin
  unfold isNil at hr
  split at hr <;> simp at hr
  · subst hr
    cases rx
    exact fin (eq_nilFunc hu _) (eqGuard_at_nilFunc _ _ _ _ _) rfl rfl
  · subst hr
    cases rx <;> exact fin (eq_func hu _ _ _ _) (eqGuard_at_func _ _ _ _ _ _ _ _) rfl rfl
theorem eqNil_ok3 {op : BinOp} {neg : Bool} {t t' : TypeId} {p q : TypeId} {x : Operand} {x' : Opd} (ho : o.op = .binOp op t x (.const (.map none)) t') (hop : op = if neg then .neq else .eql)
    (hu : E.P.underlying t = some (.map p q)) (hT : RelT E.lab φ nt T a.tmps) (hR : Rel E lim φ A w) (hx : compOpd E.lab nt x = some x')
    (h : pureV (eqNilA 3 neg (ev T x')) A = some (v, A')) : OpOk E lim o φ A w a g v A' := by
  obtain ⟨h, hA⟩ := pureV_some h
  have rx := hT.eval hx
  generalize ev T x' = u at h rx
  simp only [eqNilA, Option.map_eq_some_iff] at h
  obtain ⟨r, hr, rfl⟩ := h
  have fin := @eqNil_fin E lim A A' φ w a g o op neg t t' x (.const (.map none)) r ho hop hR hA
  generalize hu' : a.eval x = u' at rx fin
  unfold isNil at hr
  split at hr <;> simp at hr
  · subst hr
    cases rx
    exact fin (eq_map hu _ _) (eqGuard_at_map _ _ _ _ _ _) rfl rfl
  · subst hr
    cases rx
    exact fin (eq_map hu _ _) (eqGuard_at_map _ _ _ _ _ _) rfl rfl
theorem eq_iface {P : Program} {t : TypeId} {ms : Array (String × TypeId)} (h : P.underlying t = some (.interface ms)) (x : TypeId) (y : Value) (w : World) : (Op.equal t (.iface x y) .nilIface).run P w = .ok false w := by
  have : ∀ d, (Op.equalIn (d + 1) t (.iface x y) .nilIface).run P w = .ok false w := fun d => by simp [Op.equalIn, run_underlying h]
  exact this 9999
theorem eq_nilIface {P : Program} {t : TypeId} {ms : Array (String × TypeId)} (h : P.underlying t = some (.interface ms)) (w : World) : (Op.equal t .nilIface .nilIface).run P w = .ok true w := by
  have : ∀ d, (Op.equalIn (d + 1) t .nilIface .nilIface).run P w = .ok true w := fun d => by simp [Op.equalIn, run_underlying h]
  exact this 9999
theorem eqNil_ok4 {op : BinOp} {neg : Bool} {t t' : TypeId} {ms : Array (String × TypeId)} {x : Operand} {x' : Opd} (ho : o.op = .binOp op t x (.const .nilIface) t') (hop : op = if neg then .neq else .eql)
    (hu : E.P.underlying t = some (.interface ms)) (hT : RelT E.lab φ nt T a.tmps) (hR : Rel E lim φ A w) (hx : compOpd E.lab nt x = some x')
    (h : pureV (eqNilA 4 neg (ev T x')) A = some (v, A')) : OpOk E lim o φ A w a g v A' := by
  obtain ⟨h, hA⟩ := pureV_some h
  have rx := hT.eval hx
  generalize ev T x' = u at h rx
  simp only [eqNilA, Option.map_eq_some_iff] at h
  obtain ⟨r, hr, rfl⟩ := h
  have fin := @eqNil_fin E lim A A' φ w a g o op neg t t' x (.const .nilIface) r ho hop hR hA
  generalize hu' : a.eval x = u' at rx fin
  unfold isNil at hr
  split at hr <;> simp at hr
  · subst hr
    cases rx
    refine fin (eq_nilIface hu _) ?_ rfl rfl
    subst hop
    rw [show a.eval (.const .nilIface) = .nilIface from rfl]
    cases neg <;> cases x <;> simp [eqGuard]
  · subst hr
    cases rx
    refine fin (eq_iface hu _ _ _) ?_ rfl rfl
    subst hop
    rw [show a.eval (.const .nilIface) = .nilIface from rfl]
    cases neg <;> simp [eqGuard]
theorem strBounds_run {P : Program} {len : Nat} {l h : Int} {lo hi : Option Value} (hlo : (lo = none ∧ l = 0) ∨ ∃ k, lo = some (.int k l))
    (hhi : (hi = none ∧ h = len) ∨ ∃ k, hi = some (.int k h)) (h0 : 0 ≤ l) (h1 : l ≤ h) (h2 : h ≤ len) (w : World) :
    (Instr.sliceBounds false len len lo hi none).run P w = .ok (l.toNat, h.toNat, len) w := by
  rcases hlo with ⟨rfl, rfl⟩ | ⟨k, rfl⟩
  · rcases hhi with ⟨rfl, rfl⟩ | ⟨k', rfl⟩
    · simp [Instr.sliceBounds]
    · simp [Instr.sliceBounds, Instr.sliceBound, asIntOf, show 0 ≤ h by omega, h2]
  · rcases hhi with ⟨rfl, rfl⟩ | ⟨k', rfl⟩
    · simp [Instr.sliceBounds, Instr.sliceBound, asIntOf, h0, h1]
    · simp [Instr.sliceBounds, Instr.sliceBound, asIntOf, h0, show 0 ≤ h by omega, h2, show l ≤ max h 0 by omega]
theorem extract_bytes (s : ByteArray) (l h : Nat) (hl : l ≤ h) : s.extract l h = ⟨⟨(s.data.toList.drop l).take (h - l)⟩⟩ := by
  have e : (s.extract l h).data = ⟨(s.data.toList.drop l).take (h - l)⟩ := by
    rw [ByteArray.data_extract]
    apply Array.toList_inj.1
    rw [Array.toList_extract, List.extract_eq_take_drop]
  cases he : s.extract l h
  rw [he] at e
  simp at e
  rw [e]
theorem strSl_ok {t : TypeId} {x : Operand} {x' : Opd} {lo hi : Option Operand} {lo' hi' : Option Opd} (ho : o.op = .slice t x lo hi none) (hu : E.P.underlying t = some .string)
    (hT : RelT E.lab φ nt T a.tmps) (hR : Rel E lim φ A w) (hx : compOpd E.lab nt x = some x') (hlo : compOptOpd E.lab nt lo = some lo') (hhi : compOptOpd E.lab nt hi = some hi')
    (h : pureV (strSlA (ev T x') (boundA T 0 lo') (fun n => boundA T n hi')) A = some (v, A')) : OpOk E lim o φ A w a g v A' := by
  obtain ⟨h, hA⟩ := pureV_some h
  have rx := hT.eval hx
  generalize ev T x' = u at h rx
  have mapb : ∀ {d : Nat} {y : Option Operand} {m : Int}, ((y = none ∧ m = d) ∨ ∃ z k, y = some z ∧ a.eval z = .int k m) → (y.map a.eval = none ∧ m = d) ∨ ∃ k, y.map a.eval = some (.int k m) := by
    rintro d y m (⟨rfl, rfl⟩ | ⟨z, k, rfl, hz⟩)
    · exact .inl ⟨rfl, rfl⟩
    · exact .inr ⟨k, by simp [hz]⟩
  unfold strSlA at h
  split at h
  · rename_i s
    split at h
    · rename_i l hh hl0 hh0
      split at h
      · rename_i hb
        obtain ⟨h0, h1, h2⟩ := hb
        cases h
        have hx' := string_inv rx
        have hl := mapb (bound_rel hT hlo hl0)
        have hhb := mapb (bound_rel hT hhi hh0)
        have hrun := strBounds_run (P := E.P) (len := s.size) (lo := lo.map a.eval) (hi := hi.map a.eval) hl hhb h0 h1 h2 w
        refine OpOk.of_pure hA hR (v' := .string (s.extract l.toNat hh.toNat)) ?_ ?_
        · simp only [execOp, ho, hx', Option.map_none, Instr.sliceAt, Instr.slice, Sem.run_bind, run_underlying hu, Result.andThen_ok, hrun, Sem.run_pure]
          simp [hrun]
        · rw [extract_bytes _ _ _ (by omega), show (hh - l).toNat = hh.toNat - l.toNat by omega]
          exact .string _
      · cases h
    · cases h
  · cases h
theorem sliceData_ok {c : Call} {x : Operand} {x' : Opd} (ho : o.op = .call c) (hcal : c.callee = .builtin .unsafeSliceData) (hargs : c.args.toList = [x])
    (hT : RelT E.lab φ nt T a.tmps) (hR : Rel E lim φ A w) (hx : compOpd E.lab nt x = some x') (h : pureV (sliceDataA (ev T x')) A = some (v, A')) : OpOk E lim o φ A w a g v A' := by
  obtain ⟨h, hA⟩ := pureV_some h
  have rx := hT.eval hx
  generalize ev T x' = u at h rx
  obtain ⟨cal, args, ats⟩ := c
  simp only at hcal hargs
  subst hcal
  obtain rfl : args = #[x] := by apply Array.toList_inj.1; simpa using hargs
  generalize hx' : a.eval x = x1 at rx
  unfold sliceDataA at h
  split at h
  · cases h
    obtain ⟨_, _, rfl⟩ := nilSlice_inv rx
    refine OpOk.of_pure hA hR (v' := .pointer none) ?_ .nilPtr
    simp [execOp, ho, resolve, invoke, builtin, hx', Go.Lib.run_unsafeSliceData_nil]
  · rename_i b off es n cc
    split at h
    · rename_i hn
      cases h
      obtain ⟨en, ad, q, he, hnq, hcq, hq, rfl⟩ := slice_inv rx
      rcases hq with hq | ⟨rfl, _⟩
      · omega
      · refine OpOk.of_pure hA hR (v' := .pointer (some ⟨en.blk, en.off + off, none⟩)) ?_ (.ptr he)
        simp [execOp, ho, resolve, invoke, builtin, hx', Go.Lib.run_unsafeSliceData_row (P := E.P) w ats o.type ⟨en.blk, en.off + off, none⟩ n q (show q ≠ 0 by omega)]
    · cases h
  · cases h
end
end Go.Ab
namespace Go.Ab
def ins (φ : NM) (x : Nat) (e : Ent) : NM := fun y => if y = x then some e else φ y
theorem ins_same (φ : NM) (x : Nat) (e : Ent) : ins φ x e x = some e := by simp [ins]
theorem ins_other {φ : NM} {x y : Nat} {e : Ent} (h : y ≠ x) : ins φ x e y = φ y := by simp [ins, h]
section
variable {E : Env} {lim : Nat} {A : Hp} {φ : NM} {w w1 : World}
theorem ext_ins {x : Nat} {e : Ent} (h : φ x = none) : Ext φ (ins φ x e) := fun y ey hy => by
  by_cases hx : y = x
  · subst hx; rw [h] at hy; cases hy
  · rw [ins_other hx]; exact hy
theorem Rel.fresh (hR : Rel E lim φ A w) (hl : A.n < lim) : φ A.n = none := by
  cases h : φ A.n with
  | none => rfl
  | some e => have := hR.dom _ _ h; omega
theorem Fix.push (h : Fix E φ A w) (hd : ∀ x e, φ x = some e → x < A.n ∨ lim ≤ x) (b : ABlk) {obj : Obj} (size : Nat) (hw : w1.heap = w.heap.push obj) : Fix E (ins φ A.n ⟨w.heap.size, 0, size⟩) (A.push b) w1 := by
  have hle := h.le
  refine h.of (fun b hb => by rw [hw, Array.getElem?_push, if_neg (by omega)]) ?_ ?_
  · rintro x e _ ⟨b1, h1, h2⟩
    have := Hp.lt_of_get h1
    exact ⟨b1, by rw [Hp.get_push, if_neg (by omega)]; exact h1, h2⟩
  · intro x e hx
    by_cases hxn : x = A.n
    · subst hxn; rw [ins_same] at hx; cases hx; exact .inr hle
    · rw [ins_other hxn] at hx; exact .inl hx
theorem Fix.write (h : Fix E φ A w) {A' : Hp} {x : Nat} {e : Ent} (hx : φ x = some e) (hr : ¬ roAt A x) (hw : ∀ k, k ≠ e.blk → w1.heap[k]? = w.heap[k]?) (hro : ∀ y, y ≠ x → A'.get y = A.get y) : Fix E φ A' w1 := by
  have hout := h.out hx hr
  refine h.of (fun b hb => hw b (by omega)) ?_ fun y ey hy => .inl hy
  rintro y ey _ ⟨b1, h1, h2⟩
  exact ⟨b1, by rw [hro y (fun hyx => hr (by rw [← hyx]; exact ⟨b1, h1, h2⟩))]; exact h1, h2⟩
theorem post_push (hR : Rel E lim φ A w) (hlim : A.n < lim) {lo : Nat} {b : ABlk} {obj : Obj} {size : Nat} (hw : w1.heap = w.heap.push obj) (henv : w1.os = w.os ∧ w1.output = w.output ∧ w1.tape = w.tape)
    (hb : RelB E (ins φ A.n ⟨w.heap.size, 0, size⟩) w1 b ⟨w.heap.size, 0, size⟩) : Post E lim φ A w lo (ins φ A.n ⟨w.heap.size, 0, size⟩) (A.push b) w1 := by
  have hf := hR.fresh hlim
  have hext := ext_ins (e := ⟨w.heap.size, 0, size⟩) hf
  have hold : ∀ k, k < w.heap.size → w1.heap[k]? = w.heap[k]? := fun k hk => by rw [hw, Array.getElem?_push, if_neg (by omega)]
  have hsz : w1.heap.size = w.heap.size + 1 := by rw [hw]; simp
  refine ⟨hext, ?_, by simp, ?_, by omega, fun b hb _ => hold b hb, ?_, ?_, henv⟩
  · intro x e h
    by_cases hx : x = A.n
    · exact .inr (by simp; omega)
    · rw [ins_other hx] at h; exact .inl h
  · refine ⟨?_, ?_, ?_, ?_, hR.fix.push hR.dom b size hw⟩
    · intro x e h
      by_cases hx : x = A.n
      · simp [hx]
      · rw [ins_other hx] at h; have := hR.dom x e h; simp; omega
    · intro x e h
      by_cases hx : x = A.n
      · subst hx; rw [ins_same] at h; cases h; simp [hsz]
      · rw [ins_other hx] at h; have := hR.wf x e h; omega
    · intro x b' e hb' h
      rw [Hp.get_push] at hb'
      by_cases hx : x = A.n
      · subst hx; rw [ins_same] at h; cases h; rw [if_pos rfl] at hb'; cases hb'; exact hb
      · rw [ins_other hx] at h; rw [if_neg hx] at hb'
        exact (hR.blk x b' e hb' h).mono hext (hold _ (hR.wf x e h))
    · intro x y b1 b2 ex ey hxy h1 h2 hx hy hrw
      rw [Hp.get_push] at h1 h2
      by_cases hxn : x = A.n
      · subst hxn
        rw [ins_same] at hx; cases hx
        rw [ins_other (Ne.symm hxy)] at hy
        have := hR.wf y ey hy
        simp; omega
      · rw [ins_other hxn] at hx; rw [if_neg hxn] at h1
        by_cases hyn : y = A.n
        · subst hyn
          rw [ins_same] at hy; cases hy
          have := hR.wf x ex hx
          simp; omega
        · rw [ins_other hyn] at hy; rw [if_neg hyn] at h2
          exact hR.sep x y b1 b2 ex ey hxy h1 h2 hx hy hrw
  · intro x e h hn
    by_cases hx : x = A.n
    · subst hx; rw [ins_same] at h; cases h; exact .inl (Nat.le_refl _)
    · rw [ins_other hx] at h; rw [h] at hn; cases hn
  · rintro x ⟨cs, hcs, hc1⟩
    have := Hp.lt_of_get hcs
    exact ⟨cs, by rw [Hp.get_push, if_neg (by omega)]; exact hcs, hc1⟩
theorem post_cells (hR : Rel E lim φ A w) (hlim : A.n < lim) {lo : Nat} {cs : List Value} {c : Array Value} {el : TypeId} (hw : w1.heap = w.heap.push (.cells c el)) (henv : w1.os = w.os ∧ w1.output = w.output ∧ w1.tape = w.tape)
    (hl : cs.length ≤ c.size) (hc : RelL E.lab φ cs (c.toList.take cs.length)) : Post E lim φ A w lo (ins φ A.n ⟨w.heap.size, 0, c.size⟩) (A.push (.cells cs false)) w1 := by
  refine post_push hR hlim hw henv ⟨c, el, (0, 0), ?_, rfl, by simpa using hl, fun _ => rfl, ?_⟩
  · rw [hw]; simp
  · intro i v hv
    obtain ⟨v', hv', hr⟩ := hc.get hv
    refine ⟨v', ?_, hr.mono (ext_ins (hR.fresh hlim))⟩
    rw [List.getElem?_take] at hv'
    split at hv'
    · simpa using hv'
    · cases hv'
theorem post_alloc (hR : Rel E lim φ A w) (hlim : A.n < lim) {lo : Nat} {cs : List Value} {c : Array Value} (el : TypeId) (hc : RelL E.lab φ cs c.toList) :
    Post E lim φ A w lo (ins φ A.n ⟨w.heap.size, 0, c.size⟩) (A.push (.cells cs false)) (w.alloc (.cells c el)) := by
  have := hc.1
  refine post_cells hR hlim rfl ⟨rfl, rfl, rfl⟩ (by simp at this; omega) ?_
  rw [this, List.take_length]; exact hc
theorem post_set (hR : Rel E lim φ A w) {lo x : Nat} {e : Ent} {cs cs' : List Value} {c c' : Array Value} {el : TypeId} (hx : φ x = some e) (hA : A.get x = some (.cells cs false)) (hlo : lo ≤ x) (hxl : x < lim)
    (hh : w.heap[e.blk]? = some (.cells c el (0, 0))) (hsz : c'.size = e.size) (hl : e.off + cs'.length ≤ e.size) (hc : CRel E.lab φ cs' c' e.off) :
    Post E lim φ A w lo φ (A.set x (some (.cells cs' false))) (w.setRow e.blk c') := by
  have hset := Hp.get_set hA (some (.cells cs' false))
  have hother : ∀ k, k ≠ e.blk → (w.setRow e.blk c').heap[k]? = w.heap[k]? := fun k hk => setRow_other w e.blk k c' hk
  have hsep : ∀ y b ey, y ≠ x → A.get y = some b → φ y = some ey → ey.blk ≠ e.blk := fun y b ey hy hb hey => Ne.symm (hR.sep x y _ b e ey (Ne.symm hy) hA hb hx hey rfl)
  refine ⟨Ext.refl _, fun _ _ h => .inl h, Nat.le_refl _, ?_, by simp, ?_, fun y ey h h' => (by rw [h] at h'; cases h'), ?_, rfl, rfl, rfl⟩
  · refine ⟨fun y ey h => hR.dom y ey h, fun y ey h => by simpa using hR.wf y ey h, ?_, ?_, hR.fix.write hx (not_ro hA rfl) hother fun y hy => by rw [hset, if_neg hy]⟩
    · intro y b ey hb hy
      rw [hset] at hb
      by_cases hyx : y = x
      · subst hyx
        rw [hx] at hy; cases hy
        simp only [if_true] at hb
        cases hb
        exact ⟨c', el, (0, 0), setRow_heap w e.blk c c' el (0, 0) hh, hsz, hl, fun _ => rfl, hc⟩
      · rw [if_neg hyx] at hb
        exact (hR.blk y b ey hb hy).mono (Ext.refl _) (hother _ (hsep y b ey hyx hb hy))
    · intro y z b1 b2 ey ez hyz h1 h2 hy hz hrw
      rw [hset] at h1 h2
      by_cases hyx : y = x
      · subst hyx
        rw [if_neg (Ne.symm hyz)] at h2
        rw [hx] at hy; cases hy
        exact Ne.symm (hsep z b2 ez (Ne.symm hyz) h2 hz)
      · rw [if_neg hyx] at h1
        by_cases hzx : z = x
        · subst hzx
          rw [hx] at hz; cases hz
          exact hsep y b1 ey hyx h1 hy
        · rw [if_neg hzx] at h2
          exact hR.sep y z b1 b2 ey ez hyz h1 h2 hy hz hrw
  · intro b _ H
    refine hother b fun hb => ?_
    rcases H x e hx hb.symm with h | h | h
    · omega
    · omega
    · exact absurd h (not_ro hA rfl)
  · rintro y ⟨b0, h, hb0⟩
    refine ⟨b0, ?_, hb0⟩
    rw [hset, if_neg (fun hyx => by subst hyx; rw [hA] at h; cases h; cases hb0)]
    exact h
theorem post_kill (hR : Rel E lim φ A w) {lo x : Nat} {b : ABlk} (hA : A.get x = some b) (hb : b.rw = true) : Post E lim φ A w lo φ (A.set x none) w := by
  have hset := Hp.get_set hA none
  refine ⟨Ext.refl _, fun _ _ h => .inl h, Nat.le_refl _, ?_, Nat.le_refl _, fun _ _ _ => rfl, fun y ey h h' => (by rw [h] at h'; cases h'), ?_, rfl, rfl, rfl⟩
  · refine ⟨fun y ey h => hR.dom y ey h, hR.wf, ?_, ?_, hR.fix.ro_mono (fun _ _ => rfl) fun y ⟨b1, h1, h2⟩ => ⟨b1, by rw [hset, if_neg (fun hyx => by subst hyx; rw [hA] at h1; cases h1; rw [hb] at h2; cases h2)]; exact h1, h2⟩⟩
    · intro y b ey h1 hy
      rw [hset] at h1
      by_cases hyx : y = x
      · rw [if_pos hyx] at h1; cases h1
      · rw [if_neg hyx] at h1; exact hR.blk y b ey h1 hy
    · intro y z b1 b2 ey ez hyz h1 h2 hy hz hrw
      rw [hset] at h1 h2
      by_cases hyx : y = x
      · rw [if_pos hyx] at h1; cases h1
      · by_cases hzx : z = x
        · rw [if_pos hzx] at h2; cases h2
        · rw [if_neg hyx] at h1; rw [if_neg hzx] at h2
          exact hR.sep y z b1 b2 ey ez hyz h1 h2 hy hz hrw
  · rintro y ⟨b0, h, hb0⟩
    refine ⟨b0, ?_, hb0⟩
    rw [hset, if_neg (fun hyx => by subst hyx; rw [hA] at h; cases h; rw [hb] at hb0; cases hb0)]
    exact h
theorem post_rename (hR : Rel E lim φ A w) {lo x : Nat} {e : Ent} {cs : List Value} (hx : φ x = some e) (hA : A.get x = some (.cells cs false)) (hlo : lo ≤ x) (hlim : A.n < lim)
    {c c' : Array Value} {el : TypeId} {cs' : List Value} {off : Nat} (hh : w.heap[e.blk]? = some (.cells c el (0, 0))) (hsz : c'.size = e.size) (hl : off + cs'.length ≤ e.size) (hc : CRel E.lab φ cs' c' off) :
    Post E lim φ A w lo (ins φ A.n ⟨e.blk, off, e.size⟩) ((A.set x none).push (.cells cs' false)) (w.setRow e.blk c') := by
  have hset := Hp.get_set hA none
  have hf := hR.fresh hlim
  have hxA := Hp.lt_of_get hA
  have hext := ext_ins (e := ⟨e.blk, off, e.size⟩) hf
  have hxn : x ≠ A.n := fun h => by rw [h] at hx; rw [hf] at hx; cases hx
  have hother : ∀ k, k ≠ e.blk → (w.setRow e.blk c').heap[k]? = w.heap[k]? := fun k hk => setRow_other w e.blk k c' hk
  have hsep : ∀ y b ey, y ≠ x → A.get y = some b → φ y = some ey → ey.blk ≠ e.blk := fun y b ey hy hb hey => Ne.symm (hR.sep x y _ b e ey (Ne.symm hy) hA hb hx hey rfl)
  have hget : ∀ y, ((A.set x none).push (.cells cs' false)).get y = if y = A.n then some (.cells cs' false) else if y = x then none else A.get y := fun y => by
    rw [Hp.get_push, hset]; rfl
  have hwf := hR.wf x e hx
  refine ⟨hext, ?_, by simp, ?_, by simp, ?_, ?_, ?_, rfl, rfl, rfl⟩
  · intro y ey h
    by_cases hy : y = A.n
    · exact .inr (by simp; omega)
    · rw [ins_other hy] at h; exact .inl h
  · refine ⟨?_, ?_, ?_, ?_, ?_⟩
    · intro y ey h
      by_cases hy : y = A.n
      · simp [hy]
      · rw [ins_other hy] at h; have := hR.dom y ey h; simp; omega
    · intro y ey h
      by_cases hy : y = A.n
      · subst hy; rw [ins_same] at h; cases h; simpa using hwf
      · rw [ins_other hy] at h; simpa using hR.wf y ey h
    · intro y b ey hb hy
      rw [hget] at hb
      by_cases hyn : y = A.n
      · subst hyn
        rw [ins_same] at hy; cases hy
        simp only [if_true] at hb
        cases hb
        exact ⟨c', el, (0, 0), setRow_heap w e.blk c c' el (0, 0) hh, hsz, hl, fun _ => rfl, hc.mono hext⟩
      · rw [if_neg hyn] at hb; rw [ins_other hyn] at hy
        by_cases hyx : y = x
        · rw [if_pos hyx] at hb; cases hb
        · rw [if_neg hyx] at hb
          exact (hR.blk y b ey hb hy).mono hext (hother _ (hsep y b ey hyx hb hy))
    · intro y z b1 b2 ey ez hyz h1 h2 hy hz hrw
      rw [hget] at h1 h2
      by_cases hyn : y = A.n
      · subst hyn
        rw [ins_same] at hy; cases hy
        rw [if_neg (Ne.symm hyz)] at h2; rw [ins_other (Ne.symm hyz)] at hz
        by_cases hzx : z = x
        · rw [if_pos hzx] at h2; cases h2
        · rw [if_neg hzx] at h2; exact Ne.symm (hsep z b2 ez hzx h2 hz)
      · rw [if_neg hyn] at h1; rw [ins_other hyn] at hy
        by_cases hyx : y = x
        · rw [if_pos hyx] at h1; cases h1
        · rw [if_neg hyx] at h1
          by_cases hzn : z = A.n
          · subst hzn
            rw [ins_same] at hz; cases hz
            exact hsep y b1 ey hyx h1 hy
          · rw [if_neg hzn] at h2; rw [ins_other hzn] at hz
            by_cases hzx : z = x
            · rw [if_pos hzx] at h2; cases h2
            · rw [if_neg hzx] at h2
              exact hR.sep y z b1 b2 ey ez hyz h1 h2 hy hz hrw
    · have hout := hR.fix.out hx (not_ro hA rfl)
      refine hR.fix.of (fun b hb => hother b (by omega)) ?_ ?_
      · rintro y ey _ ⟨b1, h1, h2⟩
        have := Hp.lt_of_get h1
        exact ⟨b1, by rw [hget, if_neg (by omega), if_neg (fun hyx => by subst hyx; rw [hA] at h1; cases h1; cases h2)]; exact h1, h2⟩
      · intro y ey hy
        by_cases hyn : y = A.n
        · subst hyn; rw [ins_same] at hy; cases hy; exact .inr hout
        · rw [ins_other hyn] at hy; exact .inl hy
  · intro b _ H
    refine hother b fun hb => ?_
    rcases H x e hx hb.symm with h | h | h
    · omega
    · omega
    · exact absurd h (not_ro hA rfl)
  · intro y ey h hn
    by_cases hy : y = A.n
    · subst hy; rw [ins_same] at h; cases h
      exact .inr ⟨x, e, hx, hlo, by omega, not_ro hA rfl, rfl⟩
    · rw [ins_other hy] at h; rw [h] at hn; cases hn
  · rintro y ⟨b0, h, hb0⟩
    refine ⟨b0, ?_, hb0⟩
    have := Hp.lt_of_get h
    rw [hget, if_neg (by omega), if_neg (fun hyx => by subst hyx; rw [hA] at h; cases h; cases hb0)]
    exact h
theorem cells_of {x o : Nat} {e : Ent} {cs : List Value} {ro : Bool} (hR : Rel E lim φ A w) (hx : φ x = some e) (hA : A.get x = some (.cells cs ro)) {n : Nat} (hn : o + n ≤ cs.length) :
    ∃ vs : List Value, vs.length = n ∧ RelL E.lab φ ((cs.drop o).take n) vs ∧ ∀ j u, vs[j]? = some u → w.cell? ((⟨e.blk, e.off + o, none⟩ : Addr).add j) = some u := by
  obtain ⟨c, el, fr, h1, h2, h3, _, h5⟩ := hR.blk x _ e hA hx
  refine ⟨(c.toList.drop (e.off + o)).take n, by simp; omega, ⟨by simp; omega, ?_⟩, ?_⟩
  · intro i v v' hv hv'
    rw [List.getElem?_take] at hv hv'
    split at hv
    · rename_i hi
      rw [if_pos hi] at hv'
      rw [List.getElem?_drop] at hv hv'
      obtain ⟨v2, hv2, hr⟩ := h5 _ _ hv
      rw [show e.off + (o + i) = e.off + o + i by omega] at hv2
      rw [Array.getElem?_toList, hv2] at hv'
      cases hv'
      exact hr
    · cases hv
  · intro j u hu
    rw [List.getElem?_take] at hu
    split at hu
    · rw [List.getElem?_drop, Array.getElem?_toList] at hu
      rw [Addr.add_lit]
      simp [World.cell?, h1, hu]
    · cases hu
end
end Go.Ab
namespace Go.Ab
section
variable {E : Env} {nt lim : Nat} {T : List Value} {A A' : Hp} {φ : NM} {w : World} {a : Act} {g : Nat} {v : Value} {o : Oper}
theorem alloc_ok (hlim : A'.n ≤ lim) {t : TypeId} {z : List Value} (ho : o.op = .alloc t) (hz : zeroOf E.P t = some z) (hR : Rel E lim φ A w) (h : allocA z A = some (v, A')) : OpOk E lim o φ A w a g v A' := by
  cases h
  obtain ⟨i, u, hi, hu, rfl, hz2, hz3⟩ := zeroOf_inv hz
  refine ⟨.pointer (some ⟨w.heap.size, 0, none⟩), w.alloc (.cells u.cells t), _, .inl ?_, .ptr (ins_same _ _ _), post_alloc hR (by simp at hlim; omega) t (relL_simple hz2)⟩
  simp [execOp, ho, Instr.alloc, zeroValue_run hi hu, newVar, newRow]
theorem allocB_ok (hlim : A'.n ≤ lim) {t : TypeId} (ho : o.op = .alloc t) (hb : isBld E.P E.lab t = true) (hR : Rel E lim φ A w) (h : (some (.pointer (some ⟨A.n, 0, none⟩), A.push (.bld (.pointer none) (.slice none 0 0))) : Option (Value × Hp)) = some (v, A')) : OpOk E lim o φ A w a g v A' := by
  cases h
  unfold isBld at hb
  simp only [Bool.and_eq_true, beq_iff_eq] at hb
  obtain ⟨⟨ht, _⟩, hz⟩ := hb
  split at hz
  · rename_i hz'
    obtain ⟨i, u, hi, hzu, hcs, _, hsz⟩ := zeroOf_inv hz'
    have hcells : u.cells = #[.pointer none, .slice none 0 0] := by apply Array.toList_inj.1; rw [← hcs]
    have hexec : (execOp a.eval o).run E.P w = .ok (.value (.pointer (some ⟨w.heap.size, 0, none⟩))) (w.alloc (.cells u.cells t)) := by
      simp [execOp, ho, Instr.alloc, zeroValue_run hi hzu, newVar, newRow]
    rw [hcells] at hexec
    exact ⟨_, _, _, .inl hexec, .ptr (ins_same _ _ _), post_push (lo := g) hR (by simp at hlim; omega) (size := 2) rfl ⟨rfl, rfl, rfl⟩ ⟨.pointer none, .slice none 0 0, by rw [ht]; show (w.heap.push _)[w.heap.size]? = _; simp, rfl, rfl, .nilPtr, .nilSlice⟩⟩
  · cases hz
theorem box_ok (hlim : A'.n ≤ lim) {t : TypeId} {x : Operand} {x' : Opd} (ho : o.op = .box t x) (hT : RelT E.lab φ nt T a.tmps) (hx : compOpd E.lab nt x = some x') (hR : Rel E lim φ A w)
    (h : allocA (ev T x').cells.toList A = some (v, A')) : OpOk E lim o φ A w a g v A' := by
  cases h
  refine ⟨.pointer (some ⟨w.heap.size, 0, none⟩), w.alloc (.cells (a.eval x).cells t), _, .inl ?_, .ptr (ins_same _ _ _), post_alloc hR (by simp at hlim; omega) t (hT.eval hx).cells⟩
  simp [execOp, ho, Instr.box, newVar, newRow]
theorem zeros_eq {z : Array Value} {n s : Nat} (hs : z.size = s) : ((Array.range (n * s)).map (z[· % z.size]!)).toList = zeros n z.toList := by
  subst hs
  unfold zeros
  simp only [Array.toList_map, Array.toList_range, Array.length_toList]
  apply List.map_congr_left
  intro i hi
  have hi : i < n * z.size := by simpa using hi
  have hp : 0 < z.size := by
    rcases Nat.eq_zero_or_pos z.size with h | h
    · rw [h] at hi; simp at hi
    · exact h
  have hlt := Nat.mod_lt i hp
  simp [hlt, List.getD]
theorem zeros_length (n : Nat) (z : List Value) : (zeros n z).length = n * z.length := by simp [zeros]
theorem zeros_simple {n : Nat} {z : List Value} (h : z.all simple = true) : (zeros n z).all simple = true := by
  unfold zeros
  rw [List.all_map, List.all_eq_true]
  intro i hi
  have hi : i < n * z.length := by simpa using hi
  have hp : 0 < z.length := by
    rcases Nat.eq_zero_or_pos z.length with h | h
    · rw [h] at hi; simp at hi
    · exact h
  have hlt := Nat.mod_lt i hp
  simp only [Function.comp, List.getD, List.getElem?_eq_getElem hlt, Option.getD_some]
  exact List.all_eq_true.1 h _ (List.getElem_mem _)
theorem compParts1_spec {lab : Nat → Nat} {nt : Nat} : ∀ {parts : List (Nat × Operand)} {ps : List (Nat × Opd)}, compParts1 lab nt parts = some ps →
    parts.length = ps.length ∧ ∀ (i : Nat) (p : Nat × Operand) (q : Nat × Opd), parts[i]? = some p → ps[i]? = some q → p.1 = q.1 ∧ compOpd lab nt p.2 = some q.2 := by
  intro parts
  induction parts with
  | nil => intro ps h; simp [compParts1] at h; subst h; simp
  | cons p parts ih =>
    intro ps h
    obtain ⟨i, x⟩ := p
    simp only [compParts1] at h
    split at h
    · rename_i y r h2 h3
      cases h
      obtain ⟨hl, hs⟩ := ih h3
      refine ⟨by simp [hl], fun j p' q' hp hq => ?_⟩
      cases j with
      | zero => simp at hp hq; subst hp; subst hq; exact ⟨rfl, h2⟩
      | succ j => simp at hp hq; exact hs j p' q' hp hq
    · cases h
theorem slit_ok (hlim : A'.n ≤ lim) {t e : TypeId} {n s : Nat} {parts : Array (Nat × Operand)} {z : List Value} {ps : List (Nat × Opd)} (ho : o.op = .buildSlice t n parts) (hu : E.P.underlying t = some (.slice e)) (hs : sz E.P e = some s) (hz : zeroOf E.P e = some z)
    (hp : compParts1 E.lab nt parts.toList = some ps) (hb : n * s ≤ 16777216) (hT : RelT E.lab φ nt T a.tmps) (hR : Rel E lim φ A w)
    (h : slitA n s (fillA (zeros n z) (ps.map fun p => (p.1 * s, s, ev T p.2))) A = some (v, A')) : OpOk E lim o φ A w a g v A' := by
  unfold slitA at h
  split at h
  · rename_i cs hcs
    cases h
    obtain ⟨i, u, hi, hu2, rfl, hz2, hz3⟩ := zeroOf_inv hz
    have hsi : i.size = s := by unfold sz at hs; rw [hi] at hs; simpa using hs
    have hus : u.cells.size = s := by simpa [hsi] using hz3
    obtain ⟨hl, hsp⟩ := compParts1_spec hp
    obtain ⟨zs, hzs0, hzs1, hzs2⟩ : ∃ zs : Array Value, (n * s = 0 → zs = #[]) ∧ (n * s ≠ 0 → zs = u.cells) ∧ ((Array.range (n * s)).map (zs[· % zs.size]!)).toList = zeros n u.cells.toList := by
      by_cases h0 : n * s = 0
      · refine ⟨#[], fun _ => rfl, fun h => absurd h0 h, ?_⟩
        rw [h0]
        have : (zeros n u.cells.toList).length = 0 := by rw [zeros_length]; simp [hus, h0]
        rw [List.eq_nil_of_length_eq_zero this]; simp
      · exact ⟨u.cells, fun h => absurd h h0, fun _ => rfl, zeros_eq hus⟩
    have hlen : (zeros n u.cells.toList).length = n * s := by rw [zeros_length]; simp [hus]
    have hrz : RelL E.lab φ (zeros n u.cells.toList) ((Array.range (n * s)).map (zs[· % zs.size]!)).toList := by rw [hzs2]; exact relL_simple (zeros_simple hz2)
    obtain ⟨cs', h1, h2⟩ := fill_rel (E := E) (φ := φ) (T := T) (a := a) (place := fun i => some (i * s, s)) (parts := parts.toList) (ps := ps.map fun p => (p.1 * s, s, p.2)) (cells := zeros n u.cells.toList) (cs := cs) (fun j p q h1 h2 => by
      simp only [List.getElem?_map, Option.map_eq_some_iff] at h2
      obtain ⟨q', hq', rfl⟩ := h2
      obtain ⟨e1, e2⟩ := hsp j p q' h1 hq'
      exact ⟨by simp [e1], hT.eval e2⟩) (by simp [hl]) (by rw [List.map_map]; exact hcs) hrz
    have hcsz : cs'.size = n * s := by
      have key : ∀ {cells : List Value} {l : List (Nat × Nat × Value)} {r : List Value}, fillA cells l = some r → r.length = cells.length := by
        intro cells l
        induction l generalizing cells with
        | nil => intro r h; simp [fillA] at h; rw [h]
        | cons p l ih =>
          intro r h
          obtain ⟨o, s, v⟩ := p
          simp only [fillA] at h
          split at h
          · rename_i hc; rw [ih h, setRange_length (by rw [hc.1]; exact hc.2)]
          · cases h
      have := key hcs
      have h3 := h2.1
      simp at h3; omega
    refine ⟨.slice (some ⟨w.heap.size, 0, none⟩) n n, w.alloc (.cells cs' e), _, .inl ?_, .slice (ins_same _ _ _) (Nat.le_refl _) (Nat.le_refl _) (.inr ⟨rfl, by simp [hcsz]⟩), post_alloc hR (by simp at hlim; omega) e h2⟩
    have hparts : (parts.map fun (i, x) => (i, a.eval x)).toList = parts.toList.map fun p => (p.1, a.eval p.2) := by simp
    simp only [execOp, ho, Instr.buildSlice, Sem.run_bind, run_underlying hu, sizeOf_run hs, Result.andThen_ok, hparts]
    rw [if_neg (by omega)]
    by_cases h0 : n * s = 0
    · rw [hzs0 h0] at h1
      rw [if_pos h0]
      simp only [Sem.run_bind, Sem.run_pure, Result.andThen_ok, h1, newRow, run_newObj_alloc]
    · rw [hzs1 h0] at h1
      rw [if_neg h0]
      simp only [Sem.run_bind, Sem.run_pure, Result.andThen_ok, zeroValue_run hi hu2, h1, newRow, run_newObj_alloc]
  · cases h
theorem makeS_ok (hlim : A'.n ≤ lim) {t e : TypeId} {l c : Operand} {l' c' : Opd} {i : TypeInfo} {z : List Value} (ho : o.op = .makeSlice t l c) (hu : E.P.underlying t = some (.slice e)) (hi : E.P.info? e = some i) (hz : zeroOf E.P e = some z)
    (hT : RelT E.lab φ nt T a.tmps) (hR : Rel E lim φ A w) (hl : compOpd E.lab nt l = some l') (hc : compOpd E.lab nt c = some c')
    (h : makeSA i.size i.bytes z (ev T l') (ev T c') A = some (v, A')) : OpOk E lim o φ A w a g v A' := by
  have rl := hT.eval hl
  have rc := hT.eval hc
  generalize ev T l' = u1 at h rl
  generalize ev T c' = u2 at h rc
  unfold makeSA at h
  split at h
  · rename_i n m
    split at h
    · rename_i hb
      obtain ⟨h0, h1, h2, h3⟩ := hb
      cases h
      have hl' := int_inv rl
      have hc' := int_inv rc
      obtain ⟨i2, u, hi2, hu2, rfl, hz2, hz3⟩ := zeroOf_inv hz
      rw [hi] at hi2; cases hi2
      unfold room at h2 h3
      have hbytes : (i.bytes : Int) * m ≤ 281474976710656 := by
        have hm : ((m.toNat : Int)) = m := by omega
        have : ((m.toNat * i.bytes : Nat) : Int) ≤ 70368744177664 := by omega
        rw [Int.natCast_mul, hm, Int.mul_comm] at this
        omega
      have hr := run_make (P := E.P) w t e i u hu hi hu2 .i64 .i64 n m h0 h1 hbytes (by omega)
      have hus : u.cells.size = i.size := by simpa using hz3
      have hmade : (madeCells u.cells (m.toNat * i.size)).toList = zeros m.toNat u.cells.toList := zeros_eq hus
      refine ⟨_, _, _, .inl ?_, .slice (ins_same _ _ _) (q := m.toNat) (by omega) (Nat.le_refl _) (.inr ⟨rfl, by simp [size_madeCells]⟩), post_alloc hR (by simp at hlim; omega) e (c := madeCells u.cells (m.toNat * i.size)) (by rw [hmade]; exact relL_simple (zeros_simple hz2))⟩
      simp [execOp, ho, hl', hc', hr]
    · cases h
  · cases h
theorem load_ok {t : TypeId} {x : Operand} {x' : Opd} {n : Option Nat} (ho : o.op = .load t x) (hn : cellsA E.P t = some n) (hT : RelT E.lab φ nt T a.tmps) (hx : compOpd E.lab nt x = some x') (hR : Rel E lim φ A w)
    (h : pureV (loadA A (ev T x') n) A = some (v, A')) : OpOk E lim o φ A w a g v A' := by
  obtain ⟨h, hA⟩ := pureV_some h
  have rx := hT.eval hx
  generalize ev T x' = u at h rx
  unfold loadA at h
  split at h
  · rename_i y off
    split at h
    · rename_i cs ro hy
      obtain ⟨e, he, hx'⟩ := ptr_inv rx
      cases n with
      | none =>
        have hag := cellsA_none hn
        simp only [partA] at h
        have hlt : off < cs.length := (List.getElem?_eq_some_iff.1 h).1
        obtain ⟨vs, hvl, hr, hcell⟩ := cells_of (o := off) hR he hy (n := 1) (by omega)
        obtain ⟨v', hv', hrel⟩ := hr.get (i := 0) (v := v) (by rw [List.getElem?_take]; simp [h])
        have := hcell 0 v' hv'
        rw [Addr.add_lit] at this
        refine OpOk.of_pure hA hR (v' := v') ?_ hrel
        simp only [Nat.add_zero] at this
        simp [execOp, ho, hx', Instr.loadAt, Instr.sureAddr, loadVar, isAgg_run hag, this]
      | some s =>
        obtain ⟨hag, hs⟩ := cellsA_some hn
        simp only [partA] at h
        split at h
        · rename_i hle
          cases h
          obtain ⟨vs, hvl, hr, hcell⟩ := cells_of (o := off) hR he hy hle
          have hload := run_loadCells_list (P := E.P) w ⟨e.blk, e.off + off, none⟩ vs hcell
          rw [hvl] at hload
          refine OpOk.of_pure hA hR (v' := .agg vs.toArray) ?_ (RelL.agg (by simpa using hr))
          simp [execOp, ho, hx', Instr.loadAt, Instr.sureAddr, loadVar, isAgg_run hag, sizeOf_run hs, hload]
        · cases h
    · cases h
  · cases h
theorem write_rel (hlim : A'.n ≤ lim) {x off : Nat} {e : Ent} {vs vs' : List Value} (hR : Rel E lim φ A w) (hx : φ x = some e) (hv : RelL E.lab φ vs vs') (h : writeA g A x off vs = some A') :
    ∃ w', (storeCells ⟨e.blk, e.off + off, none⟩ vs').run E.P w = .ok () w' ∧ Post E lim φ A w g φ A' w' := by
  unfold writeA at h
  split at h
  · rename_i hg
    split at h
    · rename_i cs hcs
      split at h
      · rename_i hb
        obtain ⟨hle, hcell⟩ := hb
        cases h
        obtain ⟨c, el, fr, h1, h2, h3, h4, h5⟩ := hR.blk x _ e hcs hx
        rw [h4 rfl] at h1
        have hvl := hv.1
        have h1c : ∀ u ∈ vs', u.oneCell' = true := by
          intro u hu
          obtain ⟨i, hi⟩ := List.getElem?_of_mem hu
          have hlt : i < vs.length := by rw [hvl]; exact (List.getElem?_eq_some_iff.1 hi).1
          have := hv.2 i vs[i] u (List.getElem?_eq_getElem hlt) hi
          exact isCell_one this (List.all_eq_true.1 hcell _ (List.getElem_mem _))
        have hst := run_storeCells_at E.P e.blk (e.off + off) el vs' 0 c w h1 (by omega) h1c
        simp only [Nat.add_zero] at hst
        refine ⟨_, hst, post_set hR hx hcs hg (by have := Hp.lt_of_get hcs; simp at hlim; omega) h1 ?_ (by rw [setRange_length hle]; exact h3) ?_⟩
        · simp; omega
        · intro i u hu
          rw [setRange_get hle] at hu
          have hget : ∀ j : Nat, (c.toList.take (e.off + off) ++ vs' ++ c.toList.drop (e.off + off + vs'.length)).toArray[j]? = (setRange c.toList (e.off + off) vs')[j]? := fun j => by simp [setRange]
          rw [hget, setRange_get (by simp; omega)]
          by_cases hi : off ≤ i ∧ i < off + vs.length
          · rw [if_pos hi] at hu
            rw [if_pos (by omega), show e.off + i - (e.off + off) = i - off by omega]
            obtain ⟨u', hu', hr⟩ := hv.get hu
            exact ⟨u', hu', hr⟩
          · rw [if_neg hi] at hu
            rw [if_neg (by omega)]
            obtain ⟨u', hu', hr⟩ := h5 i u hu
            exact ⟨u', by simpa using hu', hr⟩
      · cases h
    · cases h
  · cases h
theorem store_ok (hlim : A'.n ≤ lim) {t : TypeId} {x y : Operand} {x' y' : Opd} {n : Nat} (ho : o.op = .store t x y) (hn : sz E.P t = some n) (hT : RelT E.lab φ nt T a.tmps) (hx : compOpd E.lab nt x = some x') (hy : compOpd E.lab nt y = some y') (hR : Rel E lim φ A w)
    (h : storeV (storeA g A (ev T x') (ev T y') n) = some (v, A')) : OpOk E lim o φ A w a g v A' := by
  have rx := hT.eval hx
  have ry := hT.eval hy
  generalize ev T x' = u1 at h rx
  generalize ev T y' = u2 at h ry
  simp only [storeV, Option.map_eq_some_iff] at h
  obtain ⟨A1, h, he⟩ := h
  cases he
  unfold storeA at h
  split at h
  · rename_i b off
    split at h
    · rename_i hsz
      obtain ⟨e, he, hx'⟩ := ptr_inv rx
      have rc := ry.cells
      obtain ⟨w', h1, h2⟩ := write_rel hlim hR he rc h
      refine ⟨undef, w', φ, .inr ⟨?_, rfl⟩, relV_undef, h2⟩
      have hsz' : (a.eval y).cells.size = n := by have := rc.1; simp only [Array.length_toList] at this hsz; omega
      simp [execOp, ho, hx', Instr.storeAt, Instr.sureAddr, storeVar, sizeOf_run hn, hsz', h1]
    · cases h
  · cases h
end
end Go.Ab
