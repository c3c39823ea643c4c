/- Strings: bytes that are appended, strings made of a row of bytes. -/
import Derived.Test.YtekljelnebadeaaGreatZ05
import Derived.Laws.IdiomStrings
import Derived.Test.YtekljelnebadeaaGreatZ03
import Derived.MapKept
set_option linter.unusedSimpArgs false
set_option linter.unusedVariables false
set_option linter.unusedSectionVars false
namespace Go.Ab
section
variable {E : Env} {nt lim : Nat} {T : List Value} {A A' : Hp} {φ : NM} {w : World} {a : Act} {g : Nat} {v : Value} {o : Oper}
theorem cellsAt_rel {k : Nat} {u u' : Value} {new : List Value} (hR : Rel E lim φ A w) (hu : RelV E.lab φ u u') (h : cellsAt A k u = some new) (hk : ∀ n, (∃ b c, u = .slice b n c) → k ≤ 0 ∨ 0 < n) :
    ∃ vs, vs.length = k ∧ RelL E.lab φ new vs ∧ ((u' = .slice none 0 0 ∧ k = 0) ∨ ∃ ad n c, u' = .slice (some ad) n c ∧ ∀ j x, vs[j]? = some x → w.cell? (ad.add j) = some x) := by
  unfold cellsAt at h
  split at h
  · rename_i x off s n c
    split at h
    · rename_i cs ro hx
      split at h
      · rename_i hle
        cases h
        obtain ⟨e, ad, q, he, hnq, _, hq, rfl⟩ := slice_inv hu
        by_cases hk0 : k = 0
        · subst hk0
          exact ⟨[], rfl, by simpa using RelL.nil, .inr ⟨_, _, _, rfl, by simp⟩⟩
        · obtain ⟨vs, h1, h2, h3⟩ := cells_of (o := off) hR he hx hle
          have hn : 0 < n := by rcases hk n ⟨_, _, rfl⟩ with h | h <;> omega
          obtain rfl : ad = ⟨e.blk, e.off + off, none⟩ := by
            rcases hq with hq | hq
            · omega
            · exact hq.1
          exact ⟨vs, h1, h2, .inr ⟨_, _, _, rfl, h3⟩⟩
      · cases h
    · cases h
  · split at h
    · rename_i hk0
      cases h
      obtain ⟨_, _, rfl⟩ := nilSlice_inv hu
      exact ⟨[], by simp [hk0], RelL.nil, .inl ⟨rfl, hk0⟩⟩
    · cases h
  · cases h
theorem relV_len {u u' : Value} {b : Option Addr} {n c : Nat} (h : RelV E.lab φ u u') (hu : u = .slice b n c) : ∃ b' c', u' = .slice b' n c' := by
  subst hu
  cases h with
  | nilSlice => exact ⟨_, _, rfl⟩
  | slice => exact ⟨_, _, rfl⟩
section
variable {P : Program}
theorem append_in {t ty e : TypeId} {i : TypeInfo} (ht : P.underlying t = some (.slice e)) (hi : P.info? e = some i) {b : Addr} {m q : Nat} {ad : Option Addr} {n c : Nat} {vs : List Value}
    (hf : (Builtin.firstCells i.size n (.slice ad n c)).run P w = .ok vs.toArray w) (hroom : m + n ≤ q) :
    (Builtin.append_ #[t, t] ty #[.slice (some b) m q, .slice ad n c]).run P w = ((storeCells (b.add (m * i.size)) vs).run P w).andThen fun _ w' => .ok (.slice (some b) (m + n) q) w' := by
  simp [Builtin.append_, run_underlying ht, sizeOf, typeInfo, hi, Builtin.lenOf, hroom, hf]
theorem append_nil0 {t ty e : TypeId} {i : TypeInfo} (ht : P.underlying t = some (.slice e)) (hi : P.info? e = some i) {ad : Option Addr} {c : Nat} {vs : List Value}
    (hf : (Builtin.firstCells i.size 0 (.slice ad 0 c)).run P w = .ok vs.toArray w) :
    (Builtin.append_ #[t, t] ty #[.slice none 0 0, .slice ad 0 c]).run P w = .ok (.slice none 0 0) w := by
  simp [Builtin.append_, run_underlying ht, sizeOf, typeInfo, hi, Builtin.lenOf, hf]
end
theorem toBytes_ok (hlim : A'.n ≤ lim) {s d e : TypeId} {x : Operand} {x' : Opd} (ho : o.op = .convert s d x) (hs : E.P.underlying s = some .string) (hd : E.P.underlying d = some (.slice e)) (he : E.P.underlying e = some (.int .u8))
    (hT : RelT E.lab φ nt T a.tmps) (hR : Rel E lim φ A w) (hx : compOpd E.lab nt x = some x') (h : toBytesA (ev T x') A = some (v, A')) : OpOk E lim o φ A w a g v A' := by
  have rx := hT.eval hx
  generalize ev T x' = u at h rx
  unfold toBytesA at h
  split at h
  · rename_i b
    cases h
    have hx' := string_inv rx
    have hge := grownCap_ge w b.size 0 e
    have hsz : (bytesRow b (grownCap w b.size 0 e)).size = grownCap w b.size 0 e := by
      simp [bytesRow]
      have : b.data.size = b.size := rfl
      omega
    have hrun := run_bytes_of_string (P := E.P) w s d e b hs hd he
    obtain ⟨C, hC⟩ : ∃ C, C = bytesRow b (grownCap w b.size 0 e) := ⟨_, rfl⟩
    rw [← hC] at hrun hsz
    have hexec : (execOp a.eval o).run E.P w = .ok (.value (.slice (some ⟨w.heap.size, 0, none⟩) b.size (grownCap w b.size 0 e))) (w.drew.alloc (.cells C e (C.size, C.size + 1))) := by
      simp [execOp, ho, hx', hrun]
    have hb : RelB E (ins φ A.n ⟨w.heap.size, 0, C.size⟩) (w.drew.alloc (.cells C e (C.size, C.size + 1))) (.cells (bytesOf b) true) ⟨w.heap.size, 0, C.size⟩ := by
      refine ⟨C, e, (C.size, C.size + 1), ?_, rfl, ?_, fun h => (by cases h), ?_⟩
      · show (w.heap.push _)[w.heap.size]? = _
        simp
      · have : b.data.size = b.size := rfl
        simp [bytesOf]; omega
      · intro i v hv
        refine ⟨v, ?_, ?_⟩
        · rw [hC]
          simp only [bytesOf, List.getElem?_map, Option.map_eq_some_iff] at hv
          obtain ⟨y, hy, rfl⟩ := hv
          have hi : i < b.data.size := by
            have := (List.getElem?_eq_some_iff.1 hy).1
            simpa using this
          simp only [bytesRow, Nat.zero_add]
          rw [Array.getElem?_append_left (by simpa using hi)]
          have hy2 : b.data[i]? = some y := by simpa using hy
          simp [hy2]
        · simp only [bytesOf, List.getElem?_map, Option.map_eq_some_iff] at hv
          obtain ⟨y, hy, rfl⟩ := hv
          exact .int _ _
    have hpost := post_push (lo := g) (lim := lim) hR (by simp at hlim; omega) (w1 := w.drew.alloc (.cells C e (C.size, C.size + 1))) rfl ⟨rfl, rfl, rfl⟩ hb
    exact ⟨_, _, _, .inl hexec, .slice (ins_same _ _ _) (q := grownCap w b.size 0 e) hge hge (.inr ⟨rfl, by simp; omega⟩), hpost⟩
  · cases h
theorem u8sOf_some : ∀ {vs : List Value} {l : List UInt8}, u8sOf vs = some l → vs = l.map fun b => .int .u8 b.toNat
  | [], l, h => by cases h; rfl
  | v :: vs, l, h => by
    unfold u8sOf at h
    split at h
    · rename_i heq; cases heq
    · rename_i n vs' heq
      cases heq
      split at h
      · rename_i hn
        simp only [Option.map_eq_some_iff] at h
        obtain ⟨r, hr, rfl⟩ := h
        rw [u8sOf_some hr]
        simp
        omega
      · cases h
    · cases h
theorem toStr_ok {s d e : TypeId} {x : Operand} {x' : Opd} (ho : o.op = .convert s d x) (hs : E.P.underlying s = some (.slice e)) (hd : E.P.underlying d = some .string) (he : E.P.underlying e = some (.int .u8))
    (hT : RelT E.lab φ nt T a.tmps) (hR : Rel E lim φ A w) (hx : compOpd E.lab nt x = some x') (h : pureV (toStrA (ev T x') A) A = some (v, A')) : OpOk E lim o φ A w a g v A' := by
  obtain ⟨h, hA⟩ := pureV_some h
  have rx := hT.eval hx
  generalize ev T x' = u at h rx
  generalize hx' : a.eval x = x1 at rx
  unfold toStrA at h
  split at h
  · cases h
    obtain ⟨_, _, rfl⟩ := nilSlice_inv rx
    refine OpOk.of_pure hA hR (v' := .string ⟨#[]⟩) ?_ (.string _)
    simp [execOp, ho, hx', run_convert_bytes_string (P := E.P) w s d e none 0 0 hs he hd, Conv.bytesToString]
    rfl
  · rename_i b off n c
    split at h
    · rename_i vs hvs
      simp only [Option.map_eq_some_iff] at h
      obtain ⟨l, hl, rfl⟩ := h
      have hvl := u8sOf_some hl
      obtain ⟨ws, hwl, hwr, hwx⟩ := cellsAt_rel hR rx hvs (fun n' hn' => by
        obtain ⟨b', c', hb⟩ := hn'
        cases hb
        rcases Nat.eq_zero_or_pos n with h | h
        · exact .inl (by omega)
        · exact .inr h)
      have hln : l.length = n := by
        have h1 := hwr.1
        rw [hvl, List.length_map] at h1
        omega
      obtain ⟨xb1, xc1, hx1⟩ := relV_len rx rfl
      have hcell : ∀ ad : Addr, (∀ j y, ws[j]? = some y → w.cell? (ad.add j) = some y) → ∀ j (hj : j < l.length), w.cell? (ad.add j) = some (.int .u8 (l[j].toNat : Int)) := fun ad hc j hj => by
        have hj' : j < ws.length := by omega
        have e1 : vs[j]? = some (.int .u8 (l[j].toNat : Int)) := by rw [hvl]; simp [hj]
        have hr := hwr.2 j _ _ e1 (List.getElem?_eq_getElem hj')
        rw [hc j _ (List.getElem?_eq_getElem hj')]
        exact congrArg some (int_inv hr)
      refine OpOk.of_pure hA hR (v' := .string ⟨l.toArray⟩) ?_ (.string _)
      rcases hwx with ⟨rfl, h0⟩ | ⟨ad, n', c', rfl, hc⟩
      · cases rx
      · cases hx1
        have := run_convert_bytes_back (P := E.P) w s d e ad xc1 l hs he hd (hcell ad hc)
        rw [hln] at this
        simp [execOp, ho, hx', this]
    · cases h
  · cases h
theorem makeM_ok (hlim : A'.n ≤ lim) {t : TypeId} (ho : o.op = .makeMap t none) (hR : Rel E lim φ A w) (h : (some (.map (some A.n), A.push (.map [] none)) : Option (Value × Hp)) = some (v, A')) : OpOk E lim o φ A w a g v A' := by
  cases h
  have hexec : (execOp a.eval o).run E.P w = .ok (.value (.map (some w.heap.size))) (w.alloc (.map #[] 0)) := by
    simp [execOp, ho, Instr.makeMap]
  have hb : RelB E (ins φ A.n ⟨w.heap.size, 0, 0⟩) (w.alloc (.map #[] 0)) (.map [] none) ⟨w.heap.size, 0, 0⟩ := by
    refine ⟨#[], 0, [], ?_, Go.MapKept.stamped_empty _, .refl _, .nil, .nil, fun _ h => by cases h⟩
    show (w.heap.push _)[w.heap.size]? = _
    simp
  have hpost := post_push (lo := g) (lim := lim) hR (by simp at hlim; omega) (w1 := w.alloc (.map #[] 0)) rfl ⟨rfl, rfl, rfl⟩ hb
  exact ⟨_, _, _, .inl hexec, .map (ins_same _ _ _), hpost⟩
theorem append_ok (hlim : A'.n ≤ lim) {c : Call} {t e : TypeId} {s x : Operand} {s' x' : Opd} {i : TypeInfo} {z : List Value} (ho : o.op = .call c) (hcal : c.callee = .builtin .append) (hargs : c.args.toList = [s, x]) (hts : c.argTypes.toList = [t, t])
    (hu : E.P.underlying t = some (.slice e)) (hi : E.P.info? e = some i) (hz : zeroOf E.P e = some z) (hT : RelT E.lab φ nt T a.tmps) (hR : Rel E lim φ A w)
    (hs : compOpd E.lab nt s = some s') (hx : compOpd E.lab nt x = some x') (h : appendA g A i.size i.bytes (ev T s') (ev T x') = some (v, A')) : OpOk E lim o φ A w a g v A' := by
  have rs := hT.eval hs
  have rx := hT.eval hx
  generalize ev T s' = u1 at h rs
  generalize ev T x' = u2 at h rx
  obtain ⟨cal, args, ats⟩ := c
  simp only at hcal hargs hts
  subst hcal
  obtain rfl : args = #[s, x] := by apply Array.toList_inj.1; simpa using hargs
  obtain rfl : ats = #[t, t] := by apply Array.toList_inj.1; simpa using hts
  generalize hs' : a.eval s = s1 at rs
  generalize hx' : a.eval x = x1 at rx
  have hexec : ∀ {v' : Value} {w' : World}, (Builtin.append_ #[t, t] o.type #[s1, x1]).run E.P w = .ok v' w' → (execOp a.eval o).run E.P w = .ok (.value v') w' := by
    intro v' w' hr
    simp [execOp, ho, resolve, invoke, builtin, hs', hx', hr]
  obtain ⟨i2, u, hi2, hz1, rfl, hz2, hz3⟩ := zeroOf_inv hz
  rw [hi] at hi2; cases hi2
  have hzs : u.cells.size = i.size := by simpa using hz3
  unfold appendA at h
  split at h
  · rename_i xb n xc
    split at h
    · rename_i new hnew
      split at h
      · rename_i hcond
        obtain ⟨hcell, hpos⟩ := hcond
        obtain ⟨vs, hvl, hvr, hvx⟩ := cellsAt_rel hR rx hnew (fun n' hn' => by
          obtain ⟨b, c, hb⟩ := hn'
          cases hb
          rcases Nat.eq_zero_or_pos n with h | h
          · subst h; exact .inl (by simp)
          · exact .inr h)
        have hnl : new.length = n * i.size := hvr.1.trans hvl
        obtain ⟨xb1, xc1, hx1⟩ := relV_len rx rfl
        have h1c : ∀ y ∈ vs, y.oneCell' = true := by
          intro y hy
          obtain ⟨j, hj⟩ := List.getElem?_of_mem hy
          have hlt : j < new.length := by rw [hvr.1]; exact (List.getElem?_eq_some_iff.1 hj).1
          exact isCell_one (hvr.2 j new[j] y (List.getElem?_eq_getElem hlt) hj) (List.all_eq_true.1 hcell _ (List.getElem_mem _))
        have hfirst : (Builtin.firstCells i.size n x1).run E.P w = .ok vs.toArray w := by
          rcases hvx with ⟨rfl, h0⟩ | ⟨ad, n', c', rfl, hc⟩
          · rw [h0] at hvl
            rw [List.eq_nil_of_length_eq_zero hvl]
            simp [Builtin.firstCells]
          · cases hx1
            exact run_firstCells_some (P := E.P) w i.size n ad n _ vs (by rw [hvl]) hc
        have hfirst0 : ∀ c0 b0, x1 = .slice b0 n c0 → (Builtin.firstCells i.size n (.slice b0 n c0)).run E.P w = .ok vs.toArray w := by rintro c0 b0 rfl; exact hfirst
        split at h
        ·
          obtain ⟨_, _, rfl⟩ := nilSlice_inv rs
          split at h
          · rename_i hn0
            cases h
            subst hn0
            subst hx1
            exact OpOk.of_pure rfl hR (v' := .slice none 0 0) (hexec (append_nil0 hu hi (hfirst0 _ _ rfl))) .nilSlice
          · rename_i hn0
            split at h
            · rename_i hroom
              obtain ⟨hr1, hr2⟩ := hroom
              unfold room at hr1 hr2
              cases h
              have hnpos : 0 < n := by omega
              rcases hvx with ⟨rfl, h0⟩ | ⟨ad, n', c', rfl, hc⟩
              · exfalso
                have : 0 < n * i.size := Nat.mul_pos hnpos hpos
                omega
              · cases hx1
                have hr := run_append_nil (P := E.P) w t o.type e i u hu hi hz1 ad n xc1 vs hvl hc hnpos (by omega) (by omega)
                have hge := grownCap_ge w n 0 e
                refine ⟨_, _, _, .inl (hexec hr), .slice (ins_same _ _ _) (q := grownCap w n 0 e) hge hge (.inr ⟨rfl, ?_⟩), post_cells hR (by simp at hlim; omega) (el := e) (c := vs.toArray ++ Builtin.zeroCells u.cells (grownCap w n 0 e - n)) ?_ ⟨rfl, rfl, rfl⟩ ?_ ?_⟩
                · simp only [Array.size_append, List.size_toArray, size_zeroCells, hzs, hvl, ← Nat.add_mul]
                  rw [show n + (grownCap w n 0 e - n) = grownCap w n 0 e by omega]; simp
                · rfl
                · simp; omega
                · rw [hvr.1]; simp only [Array.toList_append, List.take_left]; exact hvr
            · cases h
        ·
          rename_i b off es m cc
          obtain ⟨en, ap, q, he, hmq, hcq, hq, rfl⟩ := slice_inv rs
          split at h
          · rename_i hn0
            cases h
            subst hn0
            have hv0 : vs = [] := List.eq_nil_of_length_eq_zero (by simpa using hvl)
            subst hv0
            subst hx1
            have := append_in (P := E.P) (ty := o.type) (w := w) hu hi (b := ap) (m := m) (q := q) (hfirst0 _ _ rfl) (by omega)
            refine OpOk.of_pure rfl hR (v' := .slice (some ap) m q) (hexec ?_) rs
            rw [this]
            simp [storeCells]
          · rename_i hn0
            have hnpos : 0 < n := by omega
            split at h
            · rename_i cs hcs
              split at h
              · rename_i hcond
                obtain ⟨hg, hr1, hr2, rfl⟩ := hcond
                unfold room at hr1 hr2
                obtain ⟨ad, c', rfl, hc⟩ : ∃ ad c', x1 = .slice (some ad) n c' ∧ ∀ j y, vs[j]? = some y → w.cell? (ad.add j) = some y := by
                  rcases hvx with ⟨rfl, h0⟩ | ⟨ad, n', c', rfl, hc⟩
                  · exfalso
                    have : 0 < n * i.size := Nat.mul_pos hnpos hpos
                    omega
                  · cases hx1; exact ⟨_, _, rfl, hc⟩
                obtain ⟨c, el, fr, k1, k2, k3, k4, k5⟩ := hR.blk b _ en hcs he
                rw [k4 rfl] at k1
                split at h
                · rename_i hend
                  cases h
                  by_cases hfit : m + n ≤ q
                  ·
                    rcases hq with hq | ⟨rfl, hq⟩
                    · omega
                    · have hmn : (m + n) * i.size ≤ q * i.size := Nat.mul_le_mul_right _ hfit
                      rw [Nat.add_mul] at hmn
                      have hin := append_in (P := E.P) (ty := o.type) (w := w) hu hi (b := ⟨en.blk, en.off + off, none⟩) (m := m) (q := q) (hfirst0 _ _ rfl) hfit
                      have hst := run_storeCells_at E.P en.blk (en.off + off + m * i.size) el vs 0 c w k1 (by omega) h1c
                      rw [Addr.add_lit, hst] at hin
                      simp only [Nat.add_zero, Result.andThen_ok] at hin
                      refine ⟨_, _, _, .inl (hexec hin), .slice (e := ⟨en.blk, en.off + off, en.size⟩) (ins_same φ A.n _) hfit hfit (.inr ⟨rfl, by simpa using hq⟩), post_rename (off := en.off + off) hR he hcs hg (by simp at hlim; omega) k1 ?_ ?_ ?_⟩
                      · simp; omega
                      · simp only [List.length_append, List.length_drop]; omega
                      · intro j y hy
                        have hget : ∀ j : Nat, (c.toList.take (en.off + off + m * i.size) ++ vs ++ c.toList.drop (en.off + off + m * i.size + vs.length)).toArray[j]? = (setRange c.toList (en.off + off + m * i.size) vs)[j]? := fun j => by simp [setRange]
                        rw [hget, setRange_get (by simp; omega)]
                        by_cases hj : j < m * i.size
                        · rw [List.getElem?_append_left (by simp; omega), List.getElem?_drop] at hy
                          rw [if_neg (by omega)]
                          obtain ⟨y', hy', hr⟩ := k5 _ _ hy
                          exact ⟨y', by rw [Array.getElem?_toList, ← hy']; congr 1; omega, hr⟩
                        · rw [List.getElem?_append_right (by simp; omega)] at hy
                          have hlt := (List.getElem?_eq_some_iff.1 hy).1
                          simp only [List.length_drop] at hy hlt
                          rw [if_pos (by omega)]
                          obtain ⟨y', hy', hr⟩ := hvr.get hy
                          exact ⟨y', by rw [← hy']; congr 1; omega, hr⟩
                  ·
                    obtain ⟨olds, ho1, ho2, ho3⟩ : ∃ olds : List Value, olds.length = m * i.size ∧ RelL E.lab φ (cs.drop off) olds ∧ ∀ j y, olds[j]? = some y → w.cell? (ap.add j) = some y := by
                      by_cases hm : m = 0
                      · subst hm
                        refine ⟨[], by simp, ?_, by simp⟩
                        rw [List.drop_eq_nil_of_le (by simp at hend; omega)]; exact RelL.nil
                      · obtain ⟨vs2, h1, h2, h3⟩ := cells_of (o := off) (n := m * i.size) hR he hcs (by omega)
                        obtain rfl : ap = ⟨en.blk, en.off + off, none⟩ := by
                          rcases hq with hq | hq
                          · omega
                          · exact hq.1
                        rw [List.take_of_length_le (by simp; omega)] at h2
                        exact ⟨vs2, h1, h2, h3⟩
                    have hr := run_append_grow (P := E.P) w t o.type e i u hu hi hz1 ap m q olds ho1 ho3 ad n c' vs hvl hc (by omega) (by omega) (growslice_fits (by omega) (by omega))
                    have hge := grownCap_ge w (m + n) q e
                    have hk := post_kill hR (lo := g) hcs rfl
                    have hkR := hk.rel
                    refine ⟨_, _, _, .inl (hexec hr), .slice (ins_same φ (A.set b none).n _) (q := grownCap w (m + n) q e) hge hge (.inr ⟨rfl, ?_⟩),
                      hk.trans (post_cells hkR (by simp at hlim ⊢; omega) (el := e) (c := olds.toArray ++ vs.toArray ++ Builtin.zeroCells u.cells (grownCap w (m + n) q e - (m + n))) ?_ ⟨rfl, rfl, rfl⟩ ?_ ?_)⟩
                    · simp only [Array.size_append, List.size_toArray, size_zeroCells, hzs, hvl, ho1, ← Nat.add_mul]
                      rw [show m + n + (grownCap w (m + n) q e - (m + n)) = grownCap w (m + n) q e by omega]; simp
                    · rfl
                    · simp only [List.length_append, List.length_drop, Array.size_append, List.size_toArray]; omega
                    · have : (cs.drop off ++ new).length = (olds ++ vs).length := by simp only [List.length_append]; rw [ho2.1, hvr.1]
                      rw [this]
                      simp only [Array.toList_append, List.take_left]
                      exact ho2.append hvr
                ·
                  split at h
                  · rename_i hc2
                    simp only [Option.map_eq_some_iff] at h
                    obtain ⟨A1, hw, hA1⟩ := h
                    cases hA1
                    rcases hq with hq | ⟨rfl, hq⟩
                    · omega
                    · have hin := append_in (P := E.P) (ty := o.type) (w := w) hu hi (b := ⟨en.blk, en.off + off, none⟩) (m := m) (q := q) (hfirst0 _ _ rfl) (by omega)
                      obtain ⟨w', hw1, hw2⟩ := write_rel hlim hR he hvr hw
                      rw [Addr.add_lit, Nat.add_assoc, hw1] at hin
                      exact ⟨_, _, _, .inl (hexec hin), .slice he (by omega) hcq (.inr ⟨rfl, hq⟩), hw2⟩
                  · cases h
              · cases h
            · cases h
        · cases h
      · cases h
    · cases h
  · cases h
theorem clearS_ok (hlim : A'.n ≤ lim) {c : Call} {t e : TypeId} {x : Operand} {x' : Opd} {z : List Value} (ho : o.op = .call c) (hcal : c.callee = .builtin .clear) (hargs : c.args.toList = [x]) (hts : c.argTypes.toList = [t])
    (hu : E.P.underlying t = some (.slice e)) (hz : zeroOf E.P e = some z) (hT : RelT E.lab φ nt T a.tmps) (hR : Rel E lim φ A w)
    (hx : compOpd E.lab nt x = some x') (h : clearSA g A z (ev T x') = some (v, A')) : OpOk E lim o φ A w a g v A' := by
  have rx := hT.eval hx
  generalize ev T x' = u1 at h rx
  obtain ⟨cal, args, ats⟩ := c
  simp only at hcal hargs hts
  subst hcal
  obtain rfl : args = #[x] := by apply Array.toList_inj.1; simpa using hargs
  obtain rfl : ats = #[t] := by apply Array.toList_inj.1; simpa using hts
  generalize hx' : a.eval x = x1 at rx
  have hexec : ∀ {v' : Value} {w' : World}, (Builtin.clear_ #[t] o.type #[x1]).run E.P w = .ok v' w' → (execOp a.eval o).run E.P w = .ok (.value v') w' := by
    intro v' w' hr
    simp [execOp, ho, resolve, invoke, builtin, hx', hr]
  have rt : RelV E.lab φ (.tuple ⟨[]⟩) (.tuple #[]) := .tuple rfl fun i v v' h => by simp at h
  unfold clearSA at h
  split at h
  · cases h
    obtain ⟨rfl⟩ : x1 = .slice none 0 0 := by cases rx; rfl
    refine ⟨_, w, φ, .inl (hexec ?_), rt, Post.refl hR⟩
    simp [Builtin.clear_, run_underlying hu]
  · rename_i b off es m mc
    obtain ⟨en, ap, q, he, hmq, _, hq, rfl⟩ := slice_inv rx
    split at h
    · rename_i hm
      subst hm
      cases h
      refine ⟨_, w, φ, .inl (hexec ?_), rt, Post.refl hR⟩
      simp [Builtin.clear_, run_underlying hu]
    · rename_i hm
      simp only [Option.map_eq_some_iff] at h
      obtain ⟨A1, hw, hA1⟩ := h
      cases hA1
      obtain ⟨i, u, hi, hu2, rfl, hz2, hz3⟩ := zeroOf_inv hz
      obtain rfl : ap = ⟨en.blk, en.off + off, none⟩ := by
        rcases hq with hq | hq
        · omega
        · exact hq.1
      have hze : (Builtin.zeroCells u.cells m).toList = zeros m u.cells.toList := zeros_eq rfl
      obtain ⟨w', hw1, hw2⟩ := write_rel hlim hR he (vs' := (Builtin.zeroCells u.cells m).toList) (by rw [hze]; exact relL_simple (zeros_simple hz2)) hw
      refine ⟨_, w', φ, .inl (hexec ?_), rt, hw2⟩
      obtain ⟨k, rfl⟩ : ∃ k, m = k + 1 := ⟨m - 1, by omega⟩
      simp [Builtin.clear_, run_underlying hu, zeroValue_run hi hu2, hw1]
  · cases h
theorem copy_ok (hlim : A'.n ≤ lim) {c : Call} {t e : TypeId} {ts : List TypeId} {d s : Operand} {d' s' : Opd} {n : Nat} (ho : o.op = .call c) (hcal : c.callee = .builtin .copy) (hargs : c.args.toList = [d, s]) (hts : c.argTypes.toList = t :: ts)
    (hu : E.P.underlying t = some (.slice e)) (hn : sz E.P e = some n) (hT : RelT E.lab φ nt T a.tmps) (hR : Rel E lim φ A w)
    (hd : compOpd E.lab nt d = some d') (hs : compOpd E.lab nt s = some s') (h : copyA g A n (ev T d') (ev T s') = some (v, A')) : OpOk E lim o φ A w a g v A' := by
  have rd := hT.eval hd
  have rs := hT.eval hs
  generalize ev T d' = u1 at h rd
  generalize ev T s' = u2 at h rs
  obtain ⟨cal, args, ats⟩ := c
  simp only at hcal hargs hts
  subst hcal
  obtain rfl : args = #[d, s] := by apply Array.toList_inj.1; simpa using hargs
  obtain rfl : ats = (t :: ts).toArray := by apply Array.toList_inj.1; simpa using hts
  generalize hd' : a.eval d = d1 at rd
  generalize hs' : a.eval s = s1 at rs
  have hexec : ∀ {v' : Value} {w' : World}, (Builtin.copy_ (t :: ts).toArray o.type #[d1, s1]).run E.P w = .ok v' w' → (execOp a.eval o).run E.P w = .ok (.value v') w' := by
    intro v' w' hr
    simp [execOp, ho, resolve, invoke, builtin, hs', hd', hr]
  unfold copyA at h
  split at h
  · rename_i base m mc sb k sc
    split at h
    · rename_i new hnew
      obtain ⟨vs, hvl, hvr, hvx⟩ := cellsAt_rel hR rs hnew (fun n' hn' => by
        obtain ⟨b, c, hb⟩ := hn'
        cases hb
        rcases Nat.eq_zero_or_pos k with h | h
        · subst h; exact .inl (by simp)
        · exact .inr h)
      obtain ⟨sb1, sc1, rfl⟩ := relV_len rs rfl
      obtain ⟨b1, mc1, hd1⟩ := relV_len rd rfl
      have hfirst : (Builtin.firstCells n (Nat.min k m) (.slice sb1 k sc1)).run E.P w = .ok vs.toArray w := by
        rcases hvx with ⟨he, h0⟩ | ⟨ad, n', c', he, hc⟩
        · cases he
          rw [h0] at hvl
          rw [List.eq_nil_of_length_eq_zero hvl]
          simp [Builtin.firstCells]
        · cases he
          exact run_firstCells_some (P := E.P) w n (Nat.min k m) ad _ _ vs (by rw [hvl]) hc
      split at h
      · rename_i x off es
        simp only [Option.map_eq_some_iff] at h
        obtain ⟨A1, hw, hA1⟩ := h
        cases hA1
        obtain ⟨en, ap, q, he, hmq, _, hq, rfl⟩ := slice_inv rd
        by_cases hv0 : vs = []
        ·
          subst hv0
          have hnew0 : new = [] := List.eq_nil_of_length_eq_zero (by rw [hvr.1]; rfl)
          subst hnew0
          obtain ⟨w', hw1, hw2⟩ := write_rel hlim hR he RelL.nil hw
          simp [storeCells] at hw1
          subst hw1
          refine ⟨_, w, φ, .inl (hexec ?_), .int _ _, hw2⟩
          simp [Builtin.copy_, storeCells, Builtin.lenOf, hfirst, run_underlying hu, sizeOf_run hn]
          rfl
        · have hmpos : 0 < m := by
            rcases Nat.eq_zero_or_pos m with h | h
            · subst h
              simp at hvl
              exact absurd hvl hv0
            · exact h
          obtain rfl : ap = ⟨en.blk, en.off + off, none⟩ := by
            rcases hq with hq | hq
            · omega
            · exact hq.1
          obtain ⟨w', hw1, hw2⟩ := write_rel hlim hR he hvr hw
          refine ⟨_, w', φ, .inl (hexec ?_), .int _ _, hw2⟩
          simp [Builtin.copy_, Builtin.lenOf, hfirst, run_underlying hu, sizeOf_run hn, hw1]
          rfl
      · cases h
      · cases h
        obtain ⟨rfl, rfl, rfl⟩ := nilSlice_inv rd
        refine ⟨_, w, φ, .inl (hexec ?_), .int _ _, Post.refl hR⟩
        have e0 : Nat.min k 0 = 0 := Nat.min_zero k
        rw [e0] at hfirst
        simp [Builtin.copy_, Builtin.lenOf, hfirst, run_underlying hu, sizeOf_run hn]
        rfl
    · cases h
  · cases h
end
end Go.Ab
namespace Go.Ab
open Go.MapKept
section
variable {E : Env} {nt lim : Nat} {T : List Value} {A A' : Hp} {φ : NM} {w w1 : World} {a : Act} {g : Nat} {v : Value} {o : Oper}
theorem post_setM (hR : Rel E lim φ A w) {lo x : Nat} {e : Ent} {l l' l1 : List (Value × Value)} {es es' : Array MapEntry} {cl cl' : Nat} (hx : φ x = some e) (hA : A.get x = some (.map l none)) (hlo : lo ≤ x) (hxl : x < lim)
    (hh : w.heap[e.blk]? = some (.map es cl)) (hs : Stamped es' cl') (hp : l1.Perm l') (hk : KeysAp l') (hc : RelM E.lab φ l1 es'.toList) :
    Post E lim φ A w lo φ (A.set x (some (.map l' none))) { w with heap := w.heap.setIfInBounds e.blk (.map es' cl') } := by
  have hset := Hp.get_set hA (some (.map l' none))
  obtain ⟨hself, hother⟩ := heap_set (o' := .map es' cl') hh
  have hsep : ∀ y b ey, y ≠ x → A.get y = some b → φ y = some ey → ey.blk ≠ e.blk := fun y b ey hy hb hey => Ne.symm (hR.sep x y _ b e ey (Ne.symm hy) hA hb hx hey rfl)
  refine ⟨Ext.refl _, fun _ _ h => .inl h, Nat.le_refl _, ?_, by simp, ?_, fun y ey h h' => (by rw [h] at h'; cases h'), ?_, rfl, rfl, rfl⟩
  · refine ⟨fun y ey h => hR.dom y ey h, fun y ey h => by simpa using hR.wf y ey h, ?_, ?_, hR.fix.write hx (not_ro hA rfl) hother fun y hy => by rw [hset, if_neg hy]⟩
    · intro y b ey hb hy
      rw [hset] at hb
      by_cases hyx : y = x
      · subst hyx
        rw [hx] at hy; cases hy
        simp only [if_true] at hb
        cases hb
        exact ⟨es', cl', l1, hself, hs, hp, hk, hc, fun _ h => by cases h⟩
      · rw [if_neg hyx] at hb
        exact (hR.blk y b ey hb hy).mono (Ext.refl _) (hother _ (hsep y b ey hyx hb hy))
    · intro y z b1 b2 ey ez hyz h1 h2 hy hz hrw
      rw [hset] at h1 h2
      by_cases hyx : y = x
      · subst hyx
        rw [if_neg (Ne.symm hyz)] at h2
        rw [hx] at hy; cases hy
        exact Ne.symm (hsep z b2 ez (Ne.symm hyz) h2 hz)
      · rw [if_neg hyx] at h1
        by_cases hzx : z = x
        · subst hzx
          rw [hx] at hz; cases hz
          exact hsep y b1 ey hyx h1 hy
        · rw [if_neg hzx] at h2
          exact hR.sep y z b1 b2 ey ez hyz h1 h2 hy hz hrw
  · intro b _ H
    refine hother b fun hb => ?_
    rcases H x e hx hb.symm with h | h | h
    · omega
    · omega
    · exact absurd h (not_ro hA rfl)
  · rintro y ⟨b0, h, hb0⟩
    refine ⟨b0, ?_, hb0⟩
    rw [hset, if_neg (fun hyx => by subst hyx; rw [hA] at h; cases h; cases hb0)]
    exact h
theorem cellEq_iff {c : Nat} {x y : Value} {e : Bool} (h : cellEq c x y = some e) : (e = true ↔ x = y) ∧ cellKind x = c ∧ cellKind y = c ∧ cellEq c y x = some e := by
  rcases cellEq_kind h with rfl | rfl | rfl
  · obtain ⟨k, a, b, rfl, rfl, rfl⟩ := cellEq_int h
    refine ⟨by simp, rfl, rfl, ?_⟩
    have : kEq k k = true := kEq_iff.2 rfl
    simp [cellEq, this, Bool.beq_comm]
  · obtain ⟨a, b, rfl, rfl, rfl⟩ := cellEq_bool h
    exact ⟨by simp, rfl, rfl, by simp [cellEq, Bool.beq_comm]⟩
  · obtain ⟨a, b, rfl, rfl, rfl⟩ := cellEq_str h
    refine ⟨by rw [strEq_iff]; simp, rfl, rfl, ?_⟩
    simp only [cellEq, Option.some.injEq]
    rw [Bool.eq_iff_iff, strEq_iff, strEq_iff, eq_comm]
theorem eqCells_iff {s : List Nat} : ∀ {xs ys : List Value} {r : Bool}, eqCells s xs ys = some r → (r = true ↔ xs = ys) ∧ xs.map cellKind = s ∧ ys.map cellKind = s ∧ eqCells s ys xs = some r := by
  induction s with
  | nil => intro xs ys r h; obtain ⟨rfl, rfl, rfl⟩ := eqCells_nil h; simp [eqCells]
  | cons c s ih =>
    intro xs ys r h
    obtain ⟨x, xs', y, ys', e, r', rfl, rfl, h1, h2, rfl⟩ := eqCells_cons h
    obtain ⟨a1, a2, a3, a4⟩ := cellEq_iff h1
    obtain ⟨b1, b2, b3, b4⟩ := ih h2
    refine ⟨by rw [Bool.and_eq_true, a1, b1, List.cons.injEq], by simp [a2, b2], by simp [a3, b3], by simp [eqCells, a4, b4]⟩
theorem keyEq_iff {k k' : Value} {b : Bool} (h : keyEq k k' = some b) : b = true ↔ k = k' := by
  unfold keyEq at h
  split at h
  · split at h
    · rename_i hk
      cases h
      rw [kEq_iff] at hk
      subst hk
      simp
    · cases h
  · cases h; rw [strEq_iff]; simp
  · cases h; simp
  · rename_i xs ys
    rw [(eqCells_iff h).1]
    constructor
    · intro e; rw [Array.toList_inj.1 e]
    · intro e; cases e; rfl
  · cases h
theorem shapeNat_ge : ∀ (s : List Nat), 3 ≤ shapeNat s
  | [] => Nat.le_refl _
  | c :: s => by have := shapeNat_ge s; simp only [shapeNat]; omega
theorem shapeNat_inj : ∀ {s s' : List Nat}, (∀ c ∈ s, c < 4) → (∀ c ∈ s', c < 4) → shapeNat s = shapeNat s' → s = s'
  | [], [], _, _, _ => rfl
  | [], c :: s', _, _, h => by have := shapeNat_ge s'; simp only [shapeNat] at h; omega
  | c :: s, [], _, _, h => by have := shapeNat_ge s; simp only [shapeNat] at h; omega
  | c :: s, c' :: s', h1, h2, h => by
    have a := h1 c (by simp)
    have b := h2 c' (by simp)
    simp only [shapeNat] at h
    have e1 : shapeNat s = shapeNat s' := by omega
    have e2 : c = c' := by omega
    rw [e2, shapeNat_inj (fun x hx => h1 x (by simp [hx])) (fun x hx => h2 x (by simp [hx])) e1]
theorem cellKind_lt (v : Value) : cellKind v < 4 := by cases v <;> simp [cellKind]
theorem key_shape {n : Nat} {k : Value} {s : List Nat} (h4 : s.all (fun c => decide (c < 4)) = true) (hn : n = shapeNat s) (hf : keyFits n k = true) :
    ∃ xs, k = .agg xs ∧ xs.toList.map cellKind = s ∧ ∀ v ∈ xs.toList, cellKind v ≠ 3 := by
  have h3 := shapeNat_ge s
  cases k <;> simp only [keyFits, Bool.and_eq_true, beq_iff_eq, Bool.false_eq_true] at hf
  case agg xs =>
    refine ⟨xs, rfl, shapeNat_inj (fun c hc => ?_) (fun c hc => by simpa using List.all_eq_true.1 h4 c hc) (by rw [← hn]; exact hf.1.symm), fun v hv => by simpa using List.all_eq_true.1 hf.2 v hv⟩
    obtain ⟨v, _, rfl⟩ := List.mem_map.1 hc
    exact cellKind_lt v
  all_goals omega
theorem kind_noagg {v : Value} (h : cellKind v ≠ 3) : isAggV v = false := by cases v <;> first | rfl | simp [cellKind] at h
theorem keyT_cases {P : Program} {kt : TypeId} {n : Nat} (h : keyT P kt = some n) : (∃ d, P.underlying kt = some d ∧ keyKind d = some n) ∨
    ∃ s, intT P 20 kt = some s ∧ isAggA P kt = some true ∧ s.all (fun c => decide (c < 4)) = true ∧ n = shapeNat s := by
  unfold keyT at h
  split at h
  · rename_i ha
    obtain ⟨s, hs, h⟩ := Option.bind_eq_some_iff.1 h
    split at h
    · rename_i h4
      exact .inr ⟨s, hs, ha, h4, (Option.some.inj h).symm⟩
    · cases h
  · exact .inl (Option.bind_eq_some_iff.1 h)
theorem fields_fit {P : Program} {d : Nat} {s : List Nat} : ∀ (l : List Field) (acc : List Nat),
    l.foldlM (fun acc f => if f.offset = acc.length then (intT P d f.type).bind fun s => if sz P f.type = some s.length then some (acc ++ s) else none else none) acc = some s →
    (∃ r, s = acc ++ r) ∧ ∀ f ∈ l, ∃ sf, intT P d f.type = some sf ∧ sz P f.type = some sf.length ∧ f.offset + sf.length ≤ s.length
  | [], acc, h => by
    simp at h
    subst h
    exact ⟨⟨[], by simp⟩, by simp⟩
  | f :: l, acc, h => by
    rw [List.foldlM_cons] at h
    simp only [Option.bind_eq_bind, Option.bind_eq_some_iff] at h
    obtain ⟨acc', ha, h⟩ := h
    split at ha
    · rename_i hoff
      simp only [Option.bind_eq_some_iff] at ha
      obtain ⟨sf, hsf, ha⟩ := ha
      split at ha
      · rename_i hszf
        cases ha
        obtain ⟨⟨r, hr⟩, hall⟩ := fields_fit l (acc ++ sf) h
        refine ⟨⟨sf ++ r, by rw [hr, List.append_assoc]⟩, fun g hg => ?_⟩
        rcases List.mem_cons.1 hg with rfl | hg
        · exact ⟨sf, hsf, hszf, by rw [hoff, hr]; simp⟩
        · exact hall g hg
      · cases ha
    · cases ha
theorem checkKey_form {P : Program} (em : Bool) : ∀ (d : Nat) (t : TypeId) (s : List Nat), intT P d t = some s → ∀ (x : Value), Formed P t x → x.cells.toList.length = s.length → (∀ v ∈ x.cells.toList, isAggV v = false) →
    ∀ (m : Nat) (w : World), (Instr.checkKey em (d + m) t x).run P w = .ok () w := by
  intro d
  induction d with
  | zero => intro t s h; simp [intT] at h
  | succ d ih =>
    intro t s h x fx hl hno m w
    rw [show d + 1 + m = (d + m) + 1 by omega]
    have hagg : ∀ v : Value, isAggV v = true → ∃ xs, v = .agg xs := fun v hv => by cases v <;> simp [isAggV] at hv; exact ⟨_, rfl⟩
    unfold intT at h
    unfold Formed at fx
    rw [Instr.checkKey]
    simp only [Sem.run_bind]
    split at h
    · rename_i k hu
      simp only [run_underlying hu, Result.andThen_ok]
      rfl
    · rename_i hu
      simp only [run_underlying hu, Result.andThen_ok]
      rfl
    · rename_i hu
      simp only [run_underlying hu, Result.andThen_ok]
      rfl
    · rename_i n e hu
      split at h
      · rename_i se hse
        split at h
        · rename_i hsz
          cases h
          obtain ⟨xs, rfl⟩ := hagg x (by have := fx; simp [isAggA, hu] at this; exact this)
          obtain ⟨ag, hag, hag1⟩ := intT_leaf hse
          simp only [Value.cells] at hl hno
          simp only [Array.length_toList, List.length_flatten, List.map_replicate, List.sum_replicate_nat] at hl
          simp only [run_underlying hu, Result.andThen_ok]
          simp only [Std.Legacy.Range.forIn_eq_forIn_range', Std.Legacy.Range.size, Nat.sub_zero, Nat.add_one_sub_one, Nat.div_one]
          have each : ∀ j ∈ List.range' 0 n, j < n := fun j hj => by simpa using hj
          generalize List.range' 0 n = is at each
          induction is with
          | nil => simp
          | cons j is ihj =>
            have hj := each j (by simp)
            have hjb : j * se.length + se.length ≤ n * se.length := by
              have : (j + 1) * se.length ≤ n * se.length := Nat.mul_le_mul_right _ (by omega)
              rwa [Nat.add_mul, Nat.one_mul] at this
            obtain ⟨a, pa, fa, ca⟩ := part_at hag hsz hag1 xs (j * se.length) (by omega) (fun v hv => hno v (by simpa using hv)) w
            have p2 := ih e se hse a fa (by rw [ca]; simp; omega) (fun v hv => hno v (by rw [ca] at hv; exact List.mem_of_mem_drop (List.mem_of_mem_take hv))) m w
            simp only [List.forIn_cons, Sem.run_bind, sizeOf_run hsz, Result.andThen_ok, pa, p2, Sem.run_pure]
            have := ihj (fun y hy => each y (by simp [hy]))
            simpa only [Sem.run_bind, Sem.run_pure] using this
        · cases h
      · cases h
    · rename_i fs hu
      split at h
      · rename_i hc
        obtain ⟨hnames, hst⟩ := hc
        obtain ⟨xs, rfl⟩ := hagg x (by have := fx; simp [isAggA, hu] at this; exact this)
        simp only [Value.cells] at hl hno
        simp only [Array.length_toList] at hl
        simp only [run_underlying hu, Result.andThen_ok]
        rw [← Array.forIn_toList]
        have hfit := (fields_fit fs.toList [] h).2
        have hn : ∀ f ∈ fs.toList, f.name ≠ "_" := fun f hf => by have := List.all_eq_true.1 hnames f hf; simpa using this
        clear h hnames
        generalize fs.toList = L at hfit hn
        induction L with
        | nil => simp
        | cons f L ihL =>
          obtain ⟨sf, hsf, hszf, hb⟩ := hfit f (by simp)
          obtain ⟨ag, hag, hag1⟩ := intT_leaf hsf
          obtain ⟨a, pa, fa, ca⟩ := part_at hag hszf hag1 xs f.offset (by omega) (fun v hv => hno v (by simpa using hv)) w
          have p2 := ih f.type sf hsf a fa (by rw [ca]; simp; omega) (fun v hv => hno v (by rw [ca] at hv; exact List.mem_of_mem_drop (List.mem_of_mem_take hv))) m w
          simp only [List.forIn_cons, Sem.run_bind, hn f (by simp), ne_eq, not_false_eq_true, if_true, Result.andThen_ok, pa, p2, Sem.run_pure]
          have := ihL (fun y hy => hfit y (by simp [hy])) (fun y hy => hn y (by simp [hy]))
          simpa only [Sem.run_bind, Sem.run_pure, ne_eq] using this
      · cases h
    · cases h
theorem sameNow_eq {d : TypeDesc} {kt : Nat} {k k' : Value} {b : Bool} (hd : keyKind d = some kt) (hf : keyFits kt k = true) (h : keyEq k k' = some b) : Instr.sameNow d k k' = some b := by
  have hi := keyEq_iff h
  unfold keyEq at h
  split at h
  · rename_i a n c m
    split at h
    · rename_i hk
      rw [kEq_iff] at hk
      subst hk
      cases h
      have : kt = 0 := by simpa [keyFits] using hf
      subst this
      cases d <;> simp [keyKind] at hd
      simp [Instr.sameNow]
    · cases h
  · rename_i x y
    have : kt = 1 := by simpa [keyFits] using hf
    subst this
    cases d <;> simp [keyKind] at hd
    have e : (x == y) = b := by
      rw [Bool.eq_iff_iff, bytes_beq, hi]
      simp
    simp [Instr.sameNow, e]
  · rename_i x y
    have : kt = 2 := by simpa [keyFits] using hf
    subst this
    cases d <;> simp [keyKind] at hd
    cases h
    simp [Instr.sameNow]
  · rename_i xs ys
    exfalso
    have hn : kt = shapeNat (xs.toList.map cellKind) := by
      simp only [keyFits, Bool.and_eq_true, beq_iff_eq] at hf
      exact hf.1
    have h3 := shapeNat_ge (xs.toList.map cellKind)
    cases d <;> simp [keyKind] at hd <;> omega
  · cases h
theorem checkKey_run {P : Program} {w : World} {kt : TypeId} {d : TypeDesc} {n : Nat} (hd : P.underlying kt = some d) (hk : keyKind d = some n) (k : Value) (e : Bool) (m : Nat) : (Instr.checkKey e (m + 1) kt k).run P w = .ok () w := by
  unfold Instr.checkKey
  simp only [Sem.run_bind, run_underlying hd, Result.andThen]
  cases d <;> simp [keyKind] at hk <;> rfl
theorem checkKey_keyT {P : Program} {w : World} {kt : TypeId} {n : Nat} (h : keyT P kt = some n) {k : Value} (hf : keyFits n k = true) (e : Bool) : (Instr.checkKey e 10000 kt k).run P w = .ok () w := by
  rcases keyT_cases h with ⟨d, hd, hk⟩ | ⟨s, hs, ha, h4, hn⟩
  · exact checkKey_run hd hk k e 9999
  · obtain ⟨xs, rfl, h1, h2⟩ := key_shape h4 hn hf
    refine checkKey_form e 20 kt s hs (.agg xs) ha (by show xs.toList.length = _; rw [← h1]; simp) (fun v hv => kind_noagg (h2 v hv)) 9980 w
theorem keyEq_symm {a b : Value} {r : Bool} (h : keyEq a b = some r) : keyEq b a = some r := by
  unfold keyEq at h ⊢
  split at h
  · rename_i j n k m
    split at h
    · rename_i hk
      rw [kEq_iff] at hk
      subst hk
      cases h
      have hj : kEq j j = true := kEq_iff.2 rfl
      simp only [hj, if_true, Option.some.injEq]
      rw [Bool.eq_iff_iff, beq_iff_eq, beq_iff_eq]
      exact eq_comm
    · cases h
  · cases h
    simp only [Option.some.injEq]
    rw [Bool.eq_iff_iff, strEq_iff, strEq_iff, eq_comm]
  · cases h; simp [Bool.beq_comm]
  · rename_i xs ys
    obtain ⟨_, _, h3, h4⟩ := eqCells_iff h
    rw [h3]
    exact h4
  · cases h
theorem findM_spec {k : Value} : ∀ {l : List (Value × Value)} {r : Option Value}, findM k l = some r → KeysAp l →
    (r = none ∧ ∀ p ∈ l, keyEq k p.1 = some false) ∨ ∃ v, r = some v ∧ (k, v) ∈ l ∧ keyEq k k = some true ∧ ∀ p ∈ l, p = (k, v) ∨ keyEq k p.1 = some false
  | [], r, h, _ => by cases h; exact .inl ⟨rfl, by simp⟩
  | (k', v) :: l, r, h, hk => by
    obtain ⟨hk1, hk2⟩ := List.pairwise_cons.1 hk
    unfold findM at h
    split at h
    · rename_i he
      cases h
      have e := (keyEq_iff he).1 rfl
      subst e
      exact .inr ⟨v, rfl, by simp, he, fun p hp => by
        rcases List.mem_cons.1 hp with rfl | hp
        · exact .inl rfl
        · exact .inr (hk1 p hp)⟩
    · rename_i he
      rcases findM_spec h hk2 with ⟨h1, h2⟩ | ⟨v', h1, h2, h3, h4⟩
      · exact .inl ⟨h1, fun p hp => by
          rcases List.mem_cons.1 hp with rfl | hp
          · exact he
          · exact h2 p hp⟩
      · exact .inr ⟨v', h1, by simp [h2], h3, fun p hp => by
          rcases List.mem_cons.1 hp with rfl | hp
          · exact .inr he
          · exact h4 p hp⟩
    · cases h
theorem findNow_none {d : TypeDesc} {kt : Nat} {k : Value} (hd : keyKind d = some kt) (hf : keyFits kt k = true) : ∀ {l : List (Value × Value)} {es : List MapEntry} (i : Nat), RelM E.lab φ l es → (∀ p ∈ l, keyEq k p.1 = some false) →
    Instr.findNow d k es i = some none ∧ ∀ x ∈ es, x.key ≠ k
  | _, _, i, .nil, _ => ⟨rfl, by simp⟩
  | _, _, i, .cons hk _ hv hm, h => by
    have he := h _ (.head _)
    have hs := sameNow_eq hd hf he
    have ih := findNow_none hd hf (i + 1) hm fun p hp => h p (.tail _ hp)
    refine ⟨by simp [Instr.findNow, hk, hs, ih.1], fun x hx => ?_⟩
    rcases List.mem_cons.1 hx with rfl | hx
    · rintro rfl
      have := (keyEq_iff he).2 hk
      cases this
    · exact ih.2 x hx
theorem findNow_some {d : TypeDesc} {kt : Nat} {k v : Value} (hd : keyKind d = some kt) (hf : keyFits kt k = true) (hkk : keyEq k k = some true) : ∀ {l : List (Value × Value)} {es : List MapEntry} (i : Nat), RelM E.lab φ l es → (k, v) ∈ l → (∀ p ∈ l, p = (k, v) ∨ keyEq k p.1 = some false) →
    ∃ j en, l[j]? = some (k, v) ∧ es[j]? = some en ∧ en.key = k ∧ RelV E.lab φ v en.val ∧ Instr.findNow d k es i = some (some (i + j, en.val))
  | _, _, i, .nil, hmem, _ => by cases hmem
  | _, _, i, .cons (k := k') (v := v') (en := en) (es := es) hk _ hv hm, hmem, h => by
    rcases h _ (.head _) with he | he
    · cases he
      have hs := sameNow_eq hd hf hkk
      exact ⟨0, en, rfl, rfl, hk, hv, by simp [Instr.findNow, hk, hs]⟩
    · have hs := sameNow_eq hd hf he
      rcases List.mem_cons.1 hmem with h1 | h1
      · cases h1
        simp only at he
        rw [hkk] at he; cases he
      · obtain ⟨j, en', h2, h3, h4, h5, h6⟩ := findNow_some hd hf hkk (i + 1) hm h1 fun p hp => h p (.tail _ hp)
        exact ⟨j + 1, en', by simpa using h2, by simpa using h3, h4, h5, by simp [Instr.findNow, hk, hs, h6]; omega⟩
theorem eq_agg {kt : TypeId} {s : List Nat} (hs : intT E.P 20 kt = some s) (ha : isAggA E.P kt = some true) {xs : Array Value} (hx : xs.toList.map cellKind = s) {k' : Value} {r : Bool} (h : keyEq (.agg xs) k' = some r) :
    (Op.equal kt (.agg xs) k').run E.P w = .ok r w := by
  cases k' <;> simp only [keyEq, reduceCtorEq] at h
  rename_i ys
  rw [hx] at h
  exact equalIn_run 20 kt s hs (.agg xs) (.agg ys) ha ha r h 9980 w
theorem ask_none {kt : TypeId} {s : List Nat} (hs : intT E.P 20 kt = some s) (ha : isAggA E.P kt = some true) {xs : Array Value} (hx : xs.toList.map cellKind = s) : ∀ {l : List (Value × Value)} {es : List MapEntry} (i : Nat), RelM E.lab φ l es →
    (∀ p ∈ l, keyEq (.agg xs) p.1 = some false) → (Instr.findAsking kt (.agg xs) es i).run E.P w = .ok none w ∧ ∀ x ∈ es, x.key ≠ .agg xs
  | _, _, i, .nil, _ => ⟨by simp [Instr.findAsking], by simp⟩
  | _, _, i, .cons hk _ hv hm, h => by
    have he0 := h _ (.head _)
    have he := eq_agg (w := w) hs ha hx he0
    have ih := ask_none hs ha hx (i + 1) hm fun p hp => h p (.tail _ hp)
    simp only at he he0
    rw [← hk] at he
    refine ⟨by simp [Instr.findAsking, he, ih.1], fun x hx' => ?_⟩
    rcases List.mem_cons.1 hx' with rfl | hx'
    · intro e
      rw [e] at hk
      have := (keyEq_iff he0).2 hk
      cases this
    · exact ih.2 x hx'
theorem ask_some {kt : TypeId} {s : List Nat} (hs : intT E.P 20 kt = some s) (ha : isAggA E.P kt = some true) {xs : Array Value} (hx : xs.toList.map cellKind = s) {v : Value} (hkk : keyEq (.agg xs) (.agg xs) = some true) : ∀ {l : List (Value × Value)} {es : List MapEntry} (i : Nat), RelM E.lab φ l es → (.agg xs, v) ∈ l →
    (∀ p ∈ l, p = (.agg xs, v) ∨ keyEq (.agg xs) p.1 = some false) →
    ∃ j en, l[j]? = some (.agg xs, v) ∧ es[j]? = some en ∧ en.key = .agg xs ∧ RelV E.lab φ v en.val ∧ (Instr.findAsking kt (.agg xs) es i).run E.P w = .ok (some (i + j, en.val)) w
  | _, _, i, .nil, hmem, _ => by cases hmem
  | _, _, i, .cons (k := k') (v := v') (en := en) (es := es) hk _ hv hm, hmem, h => by
    rcases h _ (.head _) with he | he
    · cases he
      have hr := eq_agg (w := w) hs ha hx hkk
      exact ⟨0, en, rfl, rfl, hk, hv, by simp [Instr.findAsking, hk, hr]⟩
    · have hr := eq_agg (w := w) hs ha hx he
      rw [← hk] at hr
      rcases List.mem_cons.1 hmem with h1 | h1
      · cases h1
        rw [hkk] at he; cases he
      · obtain ⟨j, en', h2, h3, h4, h5, h6⟩ := ask_some hs ha hx hkk (i + 1) hm h1 fun p hp => h p (.tail _ hp)
        exact ⟨j + 1, en', by simpa using h2, by simpa using h3, h4, h5, by simp [Instr.findAsking, hr, h6]; omega⟩
theorem findKey_ask {P : Program} {kt : TypeId} (ha : isAggA P kt = some true) (k : Value) (es : List MapEntry) : (Instr.findKey kt k es).run P w = (Instr.findAsking kt k es).run P w := by
  unfold isAggA at ha
  split at ha
  · rename_i hu
    cases es with
    | nil => simp [Instr.findKey, run_underlying hu, Instr.findNow, Instr.findAsking]
    | cons e es => simp [Instr.findKey, run_underlying hu, Instr.findNow, Instr.sameNow]
  · rename_i hu
    cases es with
    | nil => simp [Instr.findKey, run_underlying hu, Instr.findNow, Instr.findAsking]
    | cons e es => simp [Instr.findKey, run_underlying hu, Instr.findNow, Instr.sameNow]
  · cases ha
  · cases ha
theorem find_none {kt : TypeId} {n : Nat} {k : Value} (hk : keyT E.P kt = some n) (hf : keyFits n k = true) {l : List (Value × Value)} {es : List MapEntry} (hm : RelM E.lab φ l es) (h : ∀ p ∈ l, keyEq k p.1 = some false) :
    (Instr.findKey kt k es).run E.P w = .ok none w ∧ ∀ x ∈ es, x.key ≠ k := by
  rcases keyT_cases hk with ⟨d, hd, hkd⟩ | ⟨s, hs, ha, h4, hn⟩
  · obtain ⟨h1, h2⟩ := findNow_none hkd hf 0 hm h
    exact ⟨run_findKey hd h1, h2⟩
  · obtain ⟨xs, rfl, h1, h2⟩ := key_shape h4 hn hf
    rw [findKey_ask ha]
    exact ask_none hs ha h1 0 hm h
theorem find_some {kt : TypeId} {n : Nat} {k v : Value} (hk : keyT E.P kt = some n) (hf : keyFits n k = true) (hkk : keyEq k k = some true) {l : List (Value × Value)} {es : List MapEntry} (hm : RelM E.lab φ l es) (hmem : (k, v) ∈ l) (h : ∀ p ∈ l, p = (k, v) ∨ keyEq k p.1 = some false) :
    ∃ j en, l[j]? = some (k, v) ∧ es[j]? = some en ∧ en.key = k ∧ RelV E.lab φ v en.val ∧ (Instr.findKey kt k es).run E.P w = .ok (some (j, en.val)) w := by
  rcases keyT_cases hk with ⟨d, hd, hkd⟩ | ⟨s, hs, ha, h4, hn⟩
  · obtain ⟨j, en, h1, h2, h3, h5, h6⟩ := findNow_some hkd hf hkk 0 hm hmem h
    rw [Nat.zero_add] at h6
    exact ⟨j, en, h1, h2, h3, h5, run_findKey hd h6⟩
  · obtain ⟨xs, rfl, h1, h2⟩ := key_shape h4 hn hf
    rw [findKey_ask ha]
    have := ask_some (w := w) hs ha h1 hkk 0 hm hmem h
    simpa only [Nat.zero_add] using this
theorem zeroV_inv {P : Program} {t : TypeId} {z : Value} (h : zeroV P t = some z) : ∃ i, P.info? t = some i ∧ i.zero = some z ∧ flat z = true := by
  unfold zeroV at h
  cases hi : P.info? t with
  | none => simp [hi] at h
  | some i =>
    cases hz : i.zero with
    | none => simp [hi, hz] at h
    | some u =>
      simp only [hi, hz, Option.bind_some] at h
      split at h
      · cases h; exact ⟨i, rfl, hz, by assumption⟩
      · cases h
theorem map_inv {x : Nat} {v : Value} (h : RelV E.lab φ (.map (some x)) v) : ∃ e, φ x = some e ∧ v = .map (some e.blk) := by cases h; exact ⟨_, by assumption, rfl⟩
theorem nilMap_inv {v : Value} (h : RelV E.lab φ (.map none) v) : v = .map none := by cases h; rfl
theorem rel_kinds : ∀ {l m : List Value}, RelL E.lab φ l m → (∀ v ∈ l, cellKind v ≠ 3) → m = l
  | [], m, h, _ => h.inv_nil
  | x :: l, m, h, hk => by
    obtain ⟨y, m', rfl, hp, h'⟩ := h.inv_cons
    rw [rel_kinds h' fun v hv => hk v (List.mem_cons_of_mem _ hv)]
    have hx := hk x (by simp)
    have : y = x := by cases hp <;> first | rfl | (simp [cellKind, errV] at hx; done)
    rw [this]
theorem key_same {kt : Nat} {k k' : Value} (hf : keyFits kt k = true) (h : RelV E.lab φ k k') : k' = k := by
  by_cases hag : isAggV k = true
  · cases k <;> simp [isAggV] at hag
    rename_i xs
    obtain ⟨ys, rfl, hr⟩ := agg_inv h
    simp only [keyFits, Bool.and_eq_true] at hf
    rw [Array.toList_inj.1 (rel_kinds hr fun v hv => by simpa using List.all_eq_true.1 hf.2 v hv)]
  · cases h <;> first | rfl | (simp [keyFits, errV] at hf; done) | (simp [isAggV] at hag; done)
theorem RelM.length {lab : Nat → Nat} {φ : NM} {l : List (Value × Value)} {es : List MapEntry} (h : RelM lab φ l es) : es.length = l.length := by
  induction h with
  | nil => rfl
  | cons _ _ _ _ ih => simp [ih]
theorem mapOf_rel {x x1 : Value} {l : List (Value × Value)} (hR : Rel E lim φ A w) (hx : RelV E.lab φ x x1) (h : mapOf A x = some l) :
    (x1 = .map none ∧ l = []) ∨ ∃ r es cl l', x1 = .map (some r) ∧ w.heap[r]? = some (.map es cl) ∧ Stamped es cl ∧ l'.Perm l ∧ KeysAp l ∧ RelM E.lab φ l' es.toList := by
  unfold mapOf at h
  split at h
  · cases h; exact .inl ⟨nilMap_inv hx, rfl⟩
  · split at h
    · rename_i hA
      cases h
      obtain ⟨e, he, rfl⟩ := map_inv hx
      obtain ⟨es, cl, l', h1, h2, h3, h4, h5, _⟩ := hR.blk _ _ e hA he
      exact .inr ⟨_, es, cl, l', rfl, h1, h2, h3, h4, h5⟩
    · cases h
  · cases h
theorem lookup_ok {t kt el : TypeId} {n : Nat} {z : Value} {x k : Operand} {x' k' : Opd} {ok : Bool} (ho : o.op = .lookup t x k ok) (hu : E.P.underlying t = some (.map kt el)) (hk : keyT E.P kt = some n) (hz : zeroV E.P el = some z)
    (hT : RelT E.lab φ nt T a.tmps) (hR : Rel E lim φ A w) (hx : compOpd E.lab nt x = some x') (hkk : compOpd E.lab nt k = some k') (h : pureV (lookupA A n z ok (ev T x') (ev T k')) A = some (v, A')) : OpOk E lim o φ A w a g v A' := by
  obtain ⟨h, hA⟩ := pureV_some h
  have rx := hT.eval hx
  have rk := hT.eval hkk
  generalize ev T x' = u1 at h rx
  generalize ev T k' = u2 at h rk
  generalize hx' : a.eval x = x1 at rx
  generalize hk' : a.eval k = k1 at rk
  obtain ⟨i, hi, hiz, hfl⟩ := zeroV_inv hz
  unfold lookupA at h
  split at h
  case h_2 => cases h
  rename_i l hl
  split at h
  case isFalse => cases h
  rename_i hf
  simp only [Option.map_eq_some_iff] at h
  obtain ⟨r, hr, rfl⟩ := h
  obtain rfl := key_same hf rk
  have fin : ∀ v', RelV E.lab φ (r.getD z) v' → (Instr.lookup t x1 k1 ok).run E.P w = .ok (if ok then .tuple #[v', .bool r.isSome] else v') w → OpOk E lim o φ A w a g (if ok then .tuple ⟨[r.getD z, .bool r.isSome]⟩ else r.getD z) A' := by
    intro v' hv hrun
    refine OpOk.of_pure hA hR (v' := if ok then .tuple #[v', .bool r.isSome] else v') (by simp [execOp, ho, hx', hk', hrun]) ?_
    cases ok with
    | true => exact RelL.tuple (RelL.cons hv (RelL.cons (.bool _) RelL.nil))
    | false => exact hv
  have h0 := zeroValue_run hi hiz w
  rcases mapOf_rel hR rx hl with ⟨rfl, rfl⟩ | ⟨b, es, cl, l', rfl, hb, hst, hp, hka, hm⟩
  · cases hr
    refine fin z (relV_flat hfl) ?_
    have hc := checkKey_keyT (w := w) hk hf (#[] : Array MapEntry).isEmpty
    have hfk : (Instr.findKey kt k1 []).run E.P w = .ok none w := (find_none (φ := φ) hk hf .nil (by simp)).1
    simp at hc
    simp [Instr.lookup, run_underlying hu, Result.andThen, hc, hfk, h0]
  · have hc := checkKey_keyT (w := w) hk hf es.isEmpty
    have hpm : ∀ p, p ∈ l' ↔ p ∈ l := fun p => hp.mem_iff
    rcases findM_spec hr hka with ⟨rfl, h2⟩ | ⟨v, rfl, h2, h3, h4⟩
    · have hfk : (Instr.findKey kt k1 es.toList).run E.P w = .ok none w := (find_none hk hf hm fun p hp => h2 p ((hpm p).1 hp)).1
      refine fin z (relV_flat hfl) ?_
      simp [Instr.lookup, run_underlying hu, Result.andThen, MapKept.run_getObj_map hb, hc, hfk, h0]
    · obtain ⟨j, en, h5, h6, h7, h8, hfk⟩ := find_some (w := w) hk hf h3 hm ((hpm _).2 h2) fun p hp => h4 p ((hpm p).1 hp)
      refine fin en.val h8 ?_
      simp [Instr.lookup, run_underlying hu, Result.andThen, MapKept.run_getObj_map hb, hc, hfk]
theorem lenM_ok {c : Call} {t kt el : TypeId} {x : Operand} {x' : Opd} (ho : o.op = .call c) (hcal : c.callee = .builtin .len) (hargs : c.args.toList = [x]) (hts : c.argTypes.toList = [t]) (hu : E.P.underlying t = some (.map kt el))
    (hT : RelT E.lab φ nt T a.tmps) (hR : Rel E lim φ A w) (hx : compOpd E.lab nt x = some x') (h : pureV (lenMA A (ev T x')) A = some (v, A')) : OpOk E lim o φ A w a g v A' := by
  obtain ⟨h, hA⟩ := pureV_some h
  have rx := hT.eval hx
  generalize ev T x' = u at h rx
  obtain ⟨cal, args, ats⟩ := c
  simp only at hcal hargs hts
  subst hcal
  obtain rfl : args = #[x] := by apply Array.toList_inj.1; simpa using hargs
  obtain rfl : ats = #[t] := by apply Array.toList_inj.1; simpa using hts
  generalize hx' : a.eval x = x1 at rx
  unfold lenMA at h
  simp only [Option.map_eq_some_iff] at h
  obtain ⟨l, hl, rfl⟩ := h
  refine OpOk.of_pure hA hR (v' := goInt l.length) ?_ (.int _ _)
  rcases mapOf_rel hR rx hl with ⟨rfl, rfl⟩ | ⟨b, es, cl, l', rfl, hb, hst, hp, hka, hm⟩
  · simp [execOp, ho, resolve, invoke, builtin, Builtin.len_, hx', run_underlying hu, Result.andThen]
  · have hlen : es.size = l.length := by
      have := hm.length
      have := hp.length_eq
      simp at *
      omega
    simp [execOp, ho, resolve, invoke, builtin, Builtin.len_, hx', run_underlying hu, MapKept.run_getObj_map hb, hlen, Result.andThen]
theorem clearM_ok (hlim : A'.n ≤ lim) {c : Call} {t kt el : TypeId} {x : Operand} {x' : Opd} (ho : o.op = .call c) (hcal : c.callee = .builtin .clear) (hargs : c.args.toList = [x]) (hts : c.argTypes.toList = [t]) (hu : E.P.underlying t = some (.map kt el))
    (hT : RelT E.lab φ nt T a.tmps) (hR : Rel E lim φ A w) (hx : compOpd E.lab nt x = some x') (h : (clearMA g A (ev T x')).map (fun A' => (Value.tuple ⟨[]⟩, A')) = some (v, A')) : OpOk E lim o φ A w a g v A' := by
  have rx := hT.eval hx
  generalize ev T x' = u at h rx
  obtain ⟨cal, args, ats⟩ := c
  simp only at hcal hargs hts
  subst hcal
  obtain rfl : args = #[x] := by apply Array.toList_inj.1; simpa using hargs
  obtain rfl : ats = #[t] := by apply Array.toList_inj.1; simpa using hts
  generalize hx' : a.eval x = x1 at rx
  simp only [Option.map_eq_some_iff] at h
  obtain ⟨A1, h, he⟩ := h
  cases he
  rcases clearMA_some h with ⟨rfl, rfl⟩ | ⟨r, l, rfl, hA, hg, rfl⟩
  · obtain rfl := nilMap_inv rx
    refine OpOk.of_pure rfl hR (v' := .tuple #[]) ?_ (.tuple rfl fun i v v' h => by simp at h)
    simp [execOp, ho, resolve, invoke, builtin, Builtin.clear_, hx', run_underlying hu, Result.andThen]
  · obtain ⟨e, he, rfl⟩ := map_inv rx
    obtain ⟨es, cl, l', h1, h2, h3, h4, h5, _⟩ := hR.blk _ _ e hA he
    have hlt := Hp.lt_of_get hA
    simp at hlim
    have hpost := post_setM (es' := #[]) (cl' := cl) (l' := []) (l1 := []) hR he hA hg (by omega) h1 (stamped_empty _) (.refl _) .nil .nil
    refine ⟨_, _, _, .inl ?_, .tuple rfl fun i v v' h => by simp at h, hpost⟩
    simp [execOp, ho, resolve, invoke, builtin, Builtin.clear_, hx', run_underlying hu, MapKept.run_getObj_map h1, MapKept.run_setObj_map _ h1, Result.andThen]
theorem setM_spec {k v : Value} : ∀ {l l1 : List (Value × Value)}, setM k v l = some l1 → KeysAp l →
    (l1 = l ++ [(k, v)] ∧ ∀ p ∈ l, keyEq k p.1 = some false) ∨ ∃ i v0, l[i]? = some (k, v0) ∧ l1 = l.set i (k, v) ∧ keyEq k k = some true ∧ ∀ p ∈ l, p = (k, v0) ∨ keyEq k p.1 = some false
  | [], l1, h, _ => by cases h; exact .inl ⟨rfl, by simp⟩
  | (k', v') :: l, l1, h, hk => by
    obtain ⟨hk1, hk2⟩ := List.pairwise_cons.1 hk
    unfold setM at h
    split at h
    · rename_i he
      cases h
      have e := (keyEq_iff he).1 rfl
      subst e
      exact .inr ⟨0, v', rfl, rfl, he, fun p hp => by
        rcases List.mem_cons.1 hp with rfl | hp
        · exact .inl rfl
        · exact .inr (hk1 p hp)⟩
    · rename_i he
      simp only [Option.map_eq_some_iff] at h
      obtain ⟨l2, h, rfl⟩ := h
      rcases setM_spec h hk2 with ⟨rfl, h2⟩ | ⟨i, v0, h1, rfl, h3, h4⟩
      · exact .inl ⟨rfl, fun p hp => by
          rcases List.mem_cons.1 hp with rfl | hp
          · exact he
          · exact h2 p hp⟩
      · exact .inr ⟨i + 1, v0, by simpa using h1, rfl, h3, fun p hp => by
          rcases List.mem_cons.1 hp with rfl | hp
          · exact .inr he
          · exact h4 p hp⟩
    · cases h
theorem keysAp_iff {l : List (Value × Value)} : KeysAp l ↔ (l.map Prod.fst).Pairwise fun a b => keyEq a b = some false := by
  unfold KeysAp
  rw [List.pairwise_map]
theorem KeysAp.set {l : List (Value × Value)} (h : KeysAp l) {i : Nat} {k v v0 : Value} (hi : l[i]? = some (k, v0)) : KeysAp (l.set i (k, v)) := by
  rw [keysAp_iff] at h ⊢
  have : (l.set i (k, v)).map Prod.fst = l.map Prod.fst := by
    apply List.ext_getElem?
    intro j
    simp only [List.map_set, List.getElem?_set, List.getElem?_map]
    split
    · rename_i hij
      subst hij
      obtain ⟨hl, he⟩ := List.getElem?_eq_some_iff.1 hi
      simp [hl, he]
    · rfl
  rw [this]; exact h
theorem KeysAp.push {l : List (Value × Value)} (h : KeysAp l) {k v : Value} (hk : ∀ p ∈ l, keyEq k p.1 = some false) : KeysAp (l ++ [(k, v)]) := by
  unfold KeysAp
  rw [List.pairwise_append]
  refine ⟨h, by simp, fun p hp q hq => ?_⟩
  simp only [List.mem_singleton] at hq
  subst hq
  exact keyEq_symm (hk p hp)
theorem perm_set {α : Type} : ∀ {l : List α} {j : Nat} {b : α} (a : α), l[j]? = some b → (l.set j a).Perm (a :: l.eraseIdx j) ∧ l.Perm (b :: l.eraseIdx j)
  | [], j, b, a, h => by simp at h
  | x :: l, 0, b, a, h => by cases h; exact ⟨.refl _, .refl _⟩
  | x :: l, j + 1, b, a, h => by
    obtain ⟨h1, h2⟩ := perm_set (l := l) (j := j) a (by simpa using h)
    exact ⟨(h1.cons x).trans (.swap a x _), (h2.cons x).trans (.swap b x _)⟩
theorem perm_sets {α : Type} {l l' : List α} {i j : Nat} {b : α} (a : α) (hp : l'.Perm l) (hj : l'[j]? = some b) (hi : l[i]? = some b) : (l'.set j a).Perm (l.set i a) := by
  obtain ⟨h1, h2⟩ := perm_set a hj
  obtain ⟨h3, h4⟩ := perm_set a hi
  have : (b :: l'.eraseIdx j).Perm (b :: l.eraseIdx i) := h2.symm.trans (hp.trans h4)
  exact h1.trans ((List.Perm.cons a this.cons_inv).trans h3.symm)
theorem RelM.set {lab : Nat → Nat} {φ : NM} {l : List (Value × Value)} {es : List MapEntry} (h : RelM lab φ l es) (j : Nat) {k v : Value} {en : MapEntry} (hk : en.key = k) (hf : flat k = true) (hv : RelV lab φ v en.val) : RelM lab φ (l.set j (k, v)) (es.set j en) := by
  induction h generalizing j with
  | nil => exact .nil
  | cons h1 h0 h2 h3 ih =>
    cases j with
    | zero => exact .cons hk hf hv h3
    | succ j => exact .cons h1 h0 h2 (ih j)
theorem RelM.push {lab : Nat → Nat} {φ : NM} {l : List (Value × Value)} {es : List MapEntry} (h : RelM lab φ l es) {k v : Value} {en : MapEntry} (hk : en.key = k) (hf : flat k = true) (hv : RelV lab φ v en.val) : RelM lab φ (l ++ [(k, v)]) (es ++ [en]) := by
  induction h with
  | nil => exact .cons hk hf hv .nil
  | cons h1 h0 h2 _ ih => exact .cons h1 h0 h2 ih
theorem keyStays {P : Program} {w : World} {n : Nat} {k : Value} (hf : keyFits n k = true) : (Instr.keyThatStays k k).run P w = .ok k w := by
  cases k <;> simp [keyFits] at hf
  case bool b => exact run_keyThatStays (d := .bool) trivial
  case int i n => exact run_keyThatStays (d := .int i) rfl
  case string s => exact run_keyThatStays (d := .string) trivial
  case agg cs =>
    have hs : Instr.sameBits 10000 (.agg cs) (.agg cs) = true := by
      show Instr.sameBits (9999 + 1) (.agg cs) (.agg cs) = true
      simp only [Instr.sameBits, beq_self_eq_true, Bool.true_and, List.all_eq_true]
      have hk : ∀ v ∈ cs.toList, cellKind v ≠ 3 := fun v hv => by
        obtain ⟨i, hi, rfl⟩ := List.getElem_of_mem hv
        simpa using hf.2 i (by simpa using hi)
      generalize cs.toList = L at hk
      intro p hp
      obtain ⟨x, y⟩ := p
      have hxy : x = y ∧ x ∈ L := by
        induction L with
        | nil => cases hp
        | cons z L ih =>
          rw [List.zip_cons_cons] at hp
          rcases List.mem_cons.1 hp with h | h
          · cases h; exact ⟨rfl, by simp⟩
          · obtain ⟨h1, h2⟩ := ih (fun v hv => hk v (List.mem_cons_of_mem _ hv)) h
            exact ⟨h1, List.mem_cons_of_mem _ h2⟩
      obtain ⟨rfl, hx⟩ := hxy
      have hx := hk x hx
      cases x <;> first | (simp [cellKind] at hx; done) | (simp [Instr.sameBits]; done) | (simp only [Instr.sameBits]; exact (bytes_beq _ _).2 rfl)
    simp [Instr.keyThatStays, hs]
theorem flat_key {n : Nat} {k : Value} (hf : keyFits n k = true) : flat k = true := by
  cases k
  case agg cs =>
    simp only [keyFits, Bool.and_eq_true, List.all_eq_true] at hf
    simp only [flat, List.all_eq_true]
    intro v hv
    have := hf.2 v hv
    cases v <;> first | rfl | (simp [cellKind] at this; done)
  all_goals first | rfl | (simp [keyFits] at hf; done)
theorem mapSet_ok (hlim : A'.n ≤ lim) {t kt el : TypeId} {n : Nat} {x k y : Operand} {x' k' y' : Opd} (ho : o.op = .mapUpdate t x k y ∨ o.op = .insert t x k y) (hu : E.P.underlying t = some (.map kt el)) (hk : keyT E.P kt = some n)
    (hT : RelT E.lab φ nt T a.tmps) (hR : Rel E lim φ A w) (hx : compOpd E.lab nt x = some x') (hkk : compOpd E.lab nt k = some k') (hy : compOpd E.lab nt y = some y') (h : storeV (mapSetA g A n (ev T x') (ev T k') (ev T y')) = some (v, A')) : OpOk E lim o φ A w a g v A' := by
  have rx := hT.eval hx
  have rk := hT.eval hkk
  have ry := hT.eval hy
  generalize ev T x' = u1 at h rx
  generalize ev T k' = u2 at h rk
  generalize ev T y' = u3 at h ry
  generalize hx' : a.eval x = x1 at rx
  generalize hk' : a.eval k = k1 at rk
  generalize hy' : a.eval y = y1 at ry
  simp only [storeV, Option.map_eq_some_iff] at h
  obtain ⟨A1, h, he⟩ := h
  cases he
  obtain ⟨r, l, l1, rfl, hA, hg, hf, hs, rfl⟩ := mapSetA_some h
  obtain rfl := key_same hf rk
  obtain ⟨e, he, rfl⟩ := map_inv rx
  obtain ⟨es, cl, l', h1, h2, h3, h4, h5, _⟩ := hR.blk _ _ e hA he
  have hlt := Hp.lt_of_get hA
  simp at hlim
  have hc := checkKey_keyT (w := w) hk hf false
  have hpm : ∀ p, p ∈ l' ↔ p ∈ l := fun p => h3.mem_iff
  have fin : ∀ es' cl' l1', (Instr.mapUpdate t (.map (some e.blk)) k1 y1).run E.P w = .ok () { w with heap := w.heap.setIfInBounds e.blk (.map es' cl') } → Stamped es' cl' → l1'.Perm l1 → KeysAp l1 → RelM E.lab φ l1' es'.toList →
      OpOk E lim o φ A w a g undef (A.set r (some (.map l1 none))) := by
    intro es' cl' l1' hrun k1 k2 k3 k4
    have hpost := post_setM (es' := es') (cl' := cl') hR he hA hg (by omega) h1 k1 k2 k3 k4
    refine ⟨_, _, _, .inr ?_, relV_undef, hpost⟩
    rcases ho with ho | ho <;> simp [execOp, ho, hx', hk', hy', hrun]
  rcases setM_spec hs h4 with ⟨rfl, h6⟩ | ⟨i, v0, h6, rfl, h7, h8⟩
  · obtain ⟨hfk, hne⟩ := find_none (w := w) hk hf h5 fun p hp => h6 p ((hpm p).1 hp)
    refine fin (es.push { key := k1, val := y1, born := cl }) (cl + 1) (l' ++ [(k1, u3)]) ?_ (stamped_push h2 hne) (h3.append_right _) (h4.push h6) ?_
    · simp [Instr.mapUpdate, run_underlying hu, Result.andThen, MapKept.run_getObj_map h1, hc, hfk, MapKept.run_setObj_map _ h1]
    · rw [Array.toList_push]; exact h5.push rfl (flat_key hf) ry
  · obtain ⟨j, en, h9, h10, h11, h12, hfk⟩ := find_some (w := w) hk hf h7 h5 ((hpm _).2 (List.mem_of_getElem? h6)) fun p hp => h8 p ((hpm p).1 hp)
    have hj : es[j]? = some en := by simpa using h10
    have hst := keyStays (P := E.P) (w := w) hf
    refine fin (es.modify j fun e => { e with key := k1, val := y1 }) cl (l'.set j (k1, u3)) ?_ (stamped_modify h2 _ _ (fun _ _ => rfl) (fun e' _ he' => ?_)) (perm_sets _ h3 h9 h6) (h4.set h6) ?_
    · simp [Instr.mapUpdate, run_underlying hu, Result.andThen, MapKept.run_getObj_map h1, hc, hfk, hj, h11, hst, MapKept.run_setObj_map _ h1]
    · rw [hj] at he'; cases he'; exact h11.symm
    · have : (es.modify j fun e => { e with key := k1, val := y1 }).toList = es.toList.set j { en with key := k1, val := y1 } := by
        apply List.ext_getElem?
        intro q
        simp only [Array.toList_modify, List.getElem?_modify, List.getElem?_set]
        split
        · rename_i hq
          subst hq
          obtain ⟨hl, _⟩ := List.getElem?_eq_some_iff.1 h10
          rw [h10]
          simp at hl
          simp [hl]
        · simp
      rw [this]
      exact h5.set j rfl (flat_key hf) ry
end
end Go.Ab
namespace Go.Ab
section
variable {E : Env} {nt lim : Nat} {T : List Value} {A A' : Hp} {φ : NM} {w : World} {a : Act} {g : Nat} {v : Value} {o : Oper}
theorem post_rename_b (hR : Rel E lim φ A w) {lo x : Nat} {e : Ent} {b0 b1 : ABlk} (hx : φ x = some e) (hA : A.get x = some b0) (hrw : b0.rw = true) (hlo : lo ≤ x) (hlim : A.n < lim) {w' : World} {off : Nat}
    (hsz : w'.heap.size = w.heap.size) (hother : ∀ k, k ≠ e.blk → w'.heap[k]? = w.heap[k]?) (henv : w'.os = w.os ∧ w'.output = w.output ∧ w'.tape = w.tape)
    (hb : RelB E (ins φ A.n ⟨e.blk, off, e.size⟩) w' b1 ⟨e.blk, off, e.size⟩) :
    Post E lim φ A w lo (ins φ A.n ⟨e.blk, off, e.size⟩) ((A.set x none).push b1) w' := by
  have hset := Hp.get_set hA none
  have hf := hR.fresh hlim
  have hxA := Hp.lt_of_get hA
  have hext := ext_ins (e := ⟨e.blk, off, e.size⟩) hf
  have hxn : x ≠ A.n := fun h => by rw [h] at hx; rw [hf] at hx; cases hx
  have hsep : ∀ y b ey, y ≠ x → A.get y = some b → φ y = some ey → ey.blk ≠ e.blk := fun y b ey hy hb hey => Ne.symm (hR.sep x y _ b e ey (Ne.symm hy) hA hb hx hey (ABlk.own_of_rw hrw))
  have hget : ∀ y, ((A.set x none).push b1).get y = if y = A.n then some b1 else if y = x then none else A.get y := fun y => by
    rw [Hp.get_push, hset]; rfl
  have hwf := hR.wf x e hx
  have nro := not_ro hA hrw
  refine ⟨hext, ?_, by simp, ?_, by omega, ?_, ?_, ?_, henv⟩
  · intro y ey h
    by_cases hy : y = A.n
    · exact .inr (by simp; omega)
    · rw [ins_other hy] at h; exact .inl h
  · refine ⟨?_, ?_, ?_, ?_, ?_⟩
    · intro y ey h
      by_cases hy : y = A.n
      · simp [hy]
      · rw [ins_other hy] at h; have := hR.dom y ey h; simp; omega
    · intro y ey h
      by_cases hy : y = A.n
      · subst hy; rw [ins_same] at h; cases h; simpa [hsz] using hwf
      · rw [ins_other hy] at h; simpa [hsz] using hR.wf y ey h
    · intro y b ey hb' hy
      rw [hget] at hb'
      by_cases hyn : y = A.n
      · subst hyn
        rw [ins_same] at hy; cases hy
        simp only [if_true] at hb'
        cases hb'
        exact hb
      · rw [if_neg hyn] at hb'; rw [ins_other hyn] at hy
        by_cases hyx : y = x
        · rw [if_pos hyx] at hb'; cases hb'
        · rw [if_neg hyx] at hb'
          exact (hR.blk y b ey hb' hy).mono hext (hother _ (hsep y b ey hyx hb' hy))
    · intro y z b1' b2 ey ez hyz h1 h2 hy hz hrw'
      rw [hget] at h1 h2
      by_cases hyn : y = A.n
      · subst hyn
        rw [ins_same] at hy; cases hy
        rw [if_neg (Ne.symm hyz)] at h2; rw [ins_other (Ne.symm hyz)] at hz
        by_cases hzx : z = x
        · rw [if_pos hzx] at h2; cases h2
        · rw [if_neg hzx] at h2; exact Ne.symm (hsep z b2 ez hzx h2 hz)
      · rw [if_neg hyn] at h1; rw [ins_other hyn] at hy
        by_cases hyx : y = x
        · rw [if_pos hyx] at h1; cases h1
        · rw [if_neg hyx] at h1
          by_cases hzn : z = A.n
          · subst hzn
            rw [ins_same] at hz; cases hz
            exact hsep y b1' ey hyx h1 hy
          · rw [if_neg hzn] at h2; rw [ins_other hzn] at hz
            by_cases hzx : z = x
            · rw [if_pos hzx] at h2; cases h2
            · rw [if_neg hzx] at h2
              exact hR.sep y z b1' b2 ey ez hyz h1 h2 hy hz hrw'
    · have hout := hR.fix.out hx nro
      refine hR.fix.of (fun b hb => hother b (by omega)) ?_ ?_
      · rintro y ey _ ⟨b3, h1, h2⟩
        have := Hp.lt_of_get h1
        exact ⟨b3, by rw [hget, if_neg (by omega), if_neg (fun hyx => nro (by rw [← hyx]; exact ⟨b3, h1, h2⟩))]; exact h1, h2⟩
      · intro y ey hy
        by_cases hyn : y = A.n
        · subst hyn; rw [ins_same] at hy; cases hy; exact .inr hout
        · rw [ins_other hyn] at hy; exact .inl hy
  · intro b _ H
    refine hother b fun hb => ?_
    rcases H x e hx hb.symm with h | h | h
    · omega
    · omega
    · exact absurd h nro
  · intro y ey h hn
    by_cases hy : y = A.n
    · subst hy; rw [ins_same] at h; cases h
      exact .inr ⟨x, e, hx, hlo, by omega, nro, rfl⟩
    · rw [ins_other hy] at h; rw [h] at hn; cases hn
  · rintro y ⟨b3, h, hb3⟩
    refine ⟨b3, ?_, hb3⟩
    have := Hp.lt_of_get h
    rw [hget, if_neg (by omega), if_neg (fun hyx => nro (by rw [← hyx]; exact ⟨b3, h, hb3⟩))]
    exact h
theorem post_end (hR : Rel E lim φ A w) {lo x : Nat} {e : Ent} {b : ABlk} (hx : φ x = some e) (hA : A.get x = some b) (hb : b.rw = true) (hlo : lo ≤ x) (hxl : x < lim) {w' : World}
    (hsz : w'.heap.size = w.heap.size) (hother : ∀ k, k ≠ e.blk → w'.heap[k]? = w.heap[k]?) (henv : w'.os = w.os ∧ w'.output = w.output ∧ w'.tape = w.tape) : Post E lim φ A w lo φ (A.set x none) w' := by
  have hset := Hp.get_set hA none
  have nro := not_ro hA hb
  have hsep : ∀ y b' ey, y ≠ x → A.get y = some b' → φ y = some ey → ey.blk ≠ e.blk := fun y b' ey hy hb' hey => Ne.symm (hR.sep x y _ b' e ey (Ne.symm hy) hA hb' hx hey (ABlk.own_of_rw hb))
  refine ⟨Ext.refl _, fun _ _ h => .inl h, Nat.le_refl _, ?_, by omega, ?_, fun y ey h h' => (by rw [h] at h'; cases h'), ?_, henv⟩
  · refine ⟨fun y ey h => hR.dom y ey h, fun y ey h => by rw [hsz]; exact hR.wf y ey h, ?_, ?_, hR.fix.write hx nro hother fun y hy => by rw [hset, if_neg hy]⟩
    · intro y b' ey h1 hy
      rw [hset] at h1
      by_cases hyx : y = x
      · rw [if_pos hyx] at h1; cases h1
      · rw [if_neg hyx] at h1; exact (hR.blk y b' ey h1 hy).mono (Ext.refl _) (hother _ (hsep y b' ey hyx h1 hy))
    · intro y z b1 b2 ey ez hyz h1 h2 hy hz hrw
      rw [hset] at h1 h2
      by_cases hyx : y = x
      · rw [if_pos hyx] at h1; cases h1
      · by_cases hzx : z = x
        · rw [if_pos hzx] at h2; cases h2
        · rw [if_neg hyx] at h1; rw [if_neg hzx] at h2
          exact hR.sep y z b1 b2 ey ez hyz h1 h2 hy hz hrw
  · intro k _ H
    refine hother k fun hk => ?_
    rcases H x e hx hk.symm with h | h | h
    · omega
    · omega
    · exact absurd h nro
  · rintro y ⟨b0, h, hb0⟩
    refine ⟨b0, ?_, hb0⟩
    rw [hset, if_neg (fun hyx => nro (by rw [← hyx]; exact ⟨b0, h, hb0⟩))]
    exact h
theorem u8Ok_inv {P : Program} {e : TypeId} (h : u8Ok P e = true) : e = u8Id P ∧ P.underlying e = some (.int .u8) ∧ P.cellsOf e = 1 ∧ ∃ i, P.info? e = some i ∧ i.size = 1 ∧ i.bytes = 1 ∧ i.zero = some (.int .u8 0) := by
  unfold u8Ok at h
  simp only [Bool.and_eq_true, beq_iff_eq] at h
  obtain ⟨⟨⟨h1, h2⟩, h3⟩, h4⟩ := h
  refine ⟨h1, ?_, h3, ?_⟩
  · split at h2
    · assumption
    · cases h2
  · split at h4
    · rename_i i hi
      simp only [Bool.and_eq_true, beq_iff_eq] at h4
      obtain ⟨⟨h5, h6⟩, h7⟩ := h4
      refine ⟨i, hi, h5, h6, ?_⟩
      split at h7
      · assumption
      · cases h7
    · cases h4
theorem strCells_get (u : ByteArray) (i : Nat) (b : UInt8) (h : u.data.toList[i]? = some b) : (Go.Lib.strCells u)[i]? = some (.int .u8 b.toNat) := by
  simp [Go.Lib.strCells, h]
theorem appendT_run (hlim : A'.n ≤ lim) {t t' e ty : TypeId} {s1 v0 : Value} {u : ByteArray} (hu : E.P.underlying t = some (.slice e)) (hu' : E.P.underlying t' = some .string) (he : u8Ok E.P e = true) (hR : Rel E lim φ A w)
    (rs : RelV E.lab φ v0 s1) (h : appendTA g A v0 (.string u) = some (v, A')) : ∃ v' w' φ', (Builtin.append_ #[t, t'] ty #[s1, .string u]).run E.P w = .ok v' w' ∧ RelV E.lab φ' v v' ∧ Post E lim φ A w g φ' A' w' ∧
      (∀ k, k < w.heap.size → (∀ y m c ey, v0 = .slice (some ⟨y, 0, some 1⟩) m c → φ y = some ey → k ≠ ey.blk) → w'.heap[k]? = w.heap[k]?) := by
  obtain ⟨he1, _, _, i, hi, hsz, hby, hz⟩ := u8Ok_inv he
  obtain ⟨u', huu, h2⟩ := appendTA_some h
  obtain rfl : u = u' := by injection huu
  clear h huu
  have hfirst := Go.Lib.run_firstCells_string (P := E.P) w 1 u
  have hul : (Go.Lib.strCells u).length = u.size := Go.Lib.strCells_length u
  have hudl : u.data.toList.length = u.size := by simp
  rcases h2 with ⟨h0, rfl, rfl, hsv⟩ | ⟨h0, hroom, rfl, rfl, rfl⟩ | ⟨b, m, cc, l, h0, rfl, hb, hgb, hroom, hlm, rfl, rfl⟩
  ·
    have hnil : Go.Lib.strCells u = [] := List.eq_nil_of_length_eq_zero (by rw [hul]; exact h0)
    rw [hnil, h0] at hfirst
    rcases hsv with rfl | ⟨b, m, cc, l, rfl, hb, hlm⟩
    · obtain ⟨_, _, rfl⟩ := nilSlice_inv rs
      refine ⟨.slice none 0 0, w, φ, ?_, .nilSlice, Post.refl hR, fun _ _ _ => rfl⟩
      simp [Builtin.append_, run_underlying hu, run_underlying hu', sizeOf, typeInfo, hi, Builtin.lenOf, h0, hsz, hfirst]
    · obtain ⟨en, ap, q, hen, hmq, hcq, hq, rfl⟩ := slice_inv rs
      refine ⟨.slice (some ap) m q, w, φ, ?_, rs, Post.refl hR, fun _ _ _ => rfl⟩
      simp [Builtin.append_, run_underlying hu, run_underlying hu', sizeOf, typeInfo, hi, Builtin.lenOf, h0, hsz, hfirst, hmq, storeCells]
  ·
    obtain ⟨_, _, rfl⟩ := nilSlice_inv rs
    unfold room at hroom
    have hge := grownCap_ge w u.size 0 e
    have hsc : u.data.map (fun b => Value.int .u8 b.toNat) = (Go.Lib.strCells u).toArray := by
      apply Array.ext'
      simp [Go.Lib.strCells]
    have hr := run_append_nil_string (P := E.P) w t t' ty e i (.int .u8 0) hu hu' hi hz u (by omega) (by omega) (by rw [hby]; omega)
    rw [hsc] at hr
    refine ⟨_, _, _, hr, .slice (ins_same _ _ _) (q := grownCap w u.size 0 e) hge hge (.inr ⟨rfl, ?_⟩), post_push hR (by simp at hlim; omega) (obj := .cells ((Go.Lib.strCells u).toArray ++ Builtin.zeroCells (Value.int .u8 0).cells (grownCap w u.size 0 e - u.size)) e) (size := ((Go.Lib.strCells u).toArray ++ Builtin.zeroCells (Value.int .u8 0).cells (grownCap w u.size 0 e - u.size)).size) rfl ⟨rfl, rfl, rfl⟩ ?_, fun k hk _ => by show (w.heap.push _)[k]? = _; rw [Array.getElem?_push, if_neg (by omega)]⟩
    · simp only [Array.size_append, List.size_toArray, size_zeroCells, hul]
      simp [Value.cells]; omega
    · refine ⟨_, by rw [he1]; show (w.heap.push _)[w.heap.size]? = _; simp, rfl, rfl, ?_, ?_⟩
      · simp only [Array.size_append, List.size_toArray, hul, hudl]; omega
      · intro j b hj
        have hlt : j < u.data.toList.length := (List.getElem?_eq_some_iff.1 hj).1
        rw [Array.getElem?_append_left (by simp only [List.size_toArray, hul]; omega)]
        simpa using strCells_get u j b hj
  ·
    obtain ⟨en, ap, q, hen, hmq, hcq, hq, rfl⟩ := slice_inv rs
    obtain ⟨c, hh, hcs, hoff, hle, hcell⟩ := hR.blk b _ en hb hen
    unfold room at hroom
    have hxn : b ≠ A.n := by have := Hp.lt_of_get hb; omega
    by_cases hfit : m + u.size ≤ q
    ·
      rcases hq with hq | ⟨rfl, hq⟩
      · omega
      · rw [hoff] at hq
        have hr := Go.Lib.run_append_room_string (P := E.P) w t t' ty e i hu hu' hi hsz en.blk m q c (by rw [he1]; exact hh) u hfit (by omega)
        have hsize : ((c.toList.take m ++ Go.Lib.strCells u ++ c.toList.drop (m + u.size)).toArray).size = en.size := by
          simp [hul]; omega
        rw [show en.off + 0 = 0 by omega]
        refine ⟨_, _, _, hr, .slice (e := ⟨en.blk, 0, en.size⟩) (ins_same φ A.n _) hfit hfit (.inr ⟨rfl, by simpa using hq⟩), post_rename_b hR hen hb rfl hgb (by simp at hlim; omega) (by simp) (fun k hk => setRow_other w en.blk k _ hk) ⟨rfl, rfl, rfl⟩ ?_, fun k _ hk => setRow_other w en.blk k _ (hk b m cc en rfl hen)⟩
        refine ⟨_, setRow_heap w en.blk c _ (u8Id E.P) (0, 0) hh, hsize, rfl, by simp only [List.length_append, hudl]; omega, ?_⟩
        intro j y hy
        by_cases hj : j < l.length
        · rw [List.getElem?_append_left hj] at hy
          have := hcell j y hy
          simp only [List.getElem?_toArray]
          rw [List.append_assoc, List.getElem?_append_left (by simp; omega), List.getElem?_take, if_pos (by omega)]
          simpa using this
        · rw [List.getElem?_append_right (by omega)] at hy
          have hlt := (List.getElem?_eq_some_iff.1 hy).1
          simp only [List.getElem?_toArray]
          rw [List.append_assoc, List.getElem?_append_right (by simp; omega)]
          have e1 : (c.toList.take m).length = m := by simp; omega
          rw [e1, List.getElem?_append_left (by omega), ← hlm]
          exact strCells_get u _ y hy
    ·
      have holds : ∀ j v, ((Go.Lib.byteCells l)[j]? = some v) → w.cell? (ap.add j) = some v := by
        intro j v hv
        have hj : j < l.length := by
          have := (List.getElem?_eq_some_iff.1 hv).1
          simpa [Go.Lib.byteCells] using this
        rcases hq with hq | ⟨rfl, hq⟩
        · omega
        · simp only [Go.Lib.byteCells, List.getElem?_map, Option.map_eq_some_iff] at hv
          obtain ⟨y, hy, rfl⟩ := hv
          have := hcell j y hy
          rw [hoff, Addr.add_lit]
          simp only [World.cell?, hh]
          simpa using this
      have hbl : (Go.Lib.byteCells l).length = m := by simp [Go.Lib.byteCells, hlm]
      have hr := Go.Lib.run_append_grow_string (P := E.P) w t t' ty e i (.int .u8 0) hu hu' hi hz ap m q (Go.Lib.byteCells l) (by rw [hbl, hsz]; omega) holds u (by omega) (by omega) (growslice_fits (by omega) (by rw [hby]; omega))
      have hge := grownCap_ge w (m + u.size) q e
      have hk := post_kill hR (lo := g) hb rfl
      refine ⟨_, _, _, hr, .slice (ins_same φ (A.set b none).n _) (q := grownCap w (m + u.size) q e) hge hge (.inr ⟨rfl, ?_⟩),
        hk.trans (post_push hk.rel (by simp at hlim ⊢; omega) (obj := .cells ((Go.Lib.byteCells l).toArray ++ (Go.Lib.strCells u).toArray ++ Builtin.zeroCells (Value.int .u8 0).cells (grownCap w (m + u.size) q e - (m + u.size))) e) (size := ((Go.Lib.byteCells l).toArray ++ (Go.Lib.strCells u).toArray ++ Builtin.zeroCells (Value.int .u8 0).cells (grownCap w (m + u.size) q e - (m + u.size))).size) rfl ⟨rfl, rfl, rfl⟩ ?_), fun k hk _ => by show (w.heap.push _)[k]? = _; rw [Array.getElem?_push, if_neg (by omega)]⟩
      · simp only [Array.size_append, List.size_toArray, size_zeroCells, hul, hbl]
        simp [Value.cells]; omega
      · refine ⟨_, by rw [he1]; show (w.heap.push _)[w.heap.size]? = _; simp, rfl, rfl, ?_, ?_⟩
        · simp only [Array.size_append, List.size_toArray, List.length_append, hul, hbl, hudl]; omega
        · intro j y hy
          have hlt : j < (l ++ u.data.toList).length := (List.getElem?_eq_some_iff.1 hy).1
          simp only [List.length_append, hudl] at hlt
          rw [Array.getElem?_append_left (by simp only [Array.size_append, List.size_toArray, hul, hbl]; omega)]
          by_cases hj : j < l.length
          · rw [List.getElem?_append_left hj] at hy
            rw [Array.getElem?_append_left (by simp only [List.size_toArray, hbl]; omega)]
            simp [Go.Lib.byteCells, hy]
          · rw [List.getElem?_append_right (by omega)] at hy
            rw [Array.getElem?_append_right (by simp only [List.size_toArray, hbl]; omega)]
            simp only [List.size_toArray, hbl, List.getElem?_toArray]
            rw [← hlm]
            exact strCells_get u _ y hy
theorem appendT_ok (hlim : A'.n ≤ lim) {c : Call} {t t' e : TypeId} {s x : Operand} {s' x' : Opd} (ho : o.op = .call c) (hcal : c.callee = .builtin .append) (hargs : c.args.toList = [s, x]) (hts : c.argTypes.toList = [t, t'])
    (hu : E.P.underlying t = some (.slice e)) (hu' : E.P.underlying t' = some .string) (he : u8Ok E.P e = true) (hT : RelT E.lab φ nt T a.tmps) (hR : Rel E lim φ A w)
    (hs : compOpd E.lab nt s = some s') (hx : compOpd E.lab nt x = some x') (h : appendTA g A (ev T s') (ev T x') = some (v, A')) : OpOk E lim o φ A w a g v A' := by
  have rs := hT.eval hs
  have rx := hT.eval hx
  generalize ev T s' = u1 at h rs
  generalize ev T x' = u2 at h rx
  obtain ⟨cal, args, ats⟩ := c
  simp only at hcal hargs hts
  subst hcal
  obtain rfl : args = #[s, x] := by apply Array.toList_inj.1; simpa using hargs
  obtain rfl : ats = #[t, t'] := by apply Array.toList_inj.1; simpa using hts
  generalize hs' : a.eval s = s1 at rs
  generalize hx' : a.eval x = x1 at rx
  obtain ⟨u, rfl, _⟩ := appendTA_some h
  have hx1 := string_inv rx
  subst hx1
  obtain ⟨v', w', φ', hr, hv, hp, _⟩ := appendT_run (ty := o.type) hlim hu hu' he hR rs h
  refine ⟨v', w', φ', .inl ?_, hv, hp⟩
  simp [execOp, ho, resolve, invoke, builtin, hs', hx', hr]
theorem mkStr_ok {c : Call} {t t' e : TypeId} {p n : Operand} {p' n' : Opd} (hlim : A'.n ≤ lim) (ho : o.op = .call c) (hcal : c.callee = .builtin .unsafeString) (hargs : c.args.toList = [p, n]) (hts : c.argTypes.toList = [t, t'])
    (hu : E.P.underlying t = some (.pointer e)) (he : u8Ok E.P e = true) (hT : RelT E.lab φ nt T a.tmps) (hR : Rel E lim φ A w)
    (hp : compOpd E.lab nt p = some p') (hn : compOpd E.lab nt n = some n') (h : mkStrA g A (ev T p') (ev T n') = some (v, A')) : OpOk E lim o φ A w a g v A' := by
  obtain ⟨he1, _, hcells, _⟩ := u8Ok_inv he
  have rp := hT.eval hp
  have rn := hT.eval hn
  generalize ev T p' = u1 at h rp
  generalize ev T n' = u2 at h rn
  obtain ⟨cal, args, ats⟩ := c
  simp only at hcal hargs hts
  subst hcal
  obtain rfl : args = #[p, n] := by apply Array.toList_inj.1; simpa using hargs
  obtain rfl : ats = #[t, t'] := by apply Array.toList_inj.1; simpa using hts
  generalize hp' : a.eval p = p1 at rp
  generalize hn' : a.eval n = n1 at rn
  have hexec : ∀ {v' : Value} {w' : World}, (Builtin.unsafeString_ #[t, t'] o.type #[p1, n1]).run E.P w = .ok v' w' → (execOp a.eval o).run E.P w = .ok (.value v') w' := by
    intro v' w' hr
    simp [execOp, ho, resolve, invoke, builtin, hp', hn', hr]
  rcases mkStrA_some h with ⟨rfl, rfl, rfl, rfl⟩ | ⟨b, l, rfl, rfl, hb, hgb, hl0, hlr, rfl, rfl⟩
  · have e1 := int_inv rn
    subst e1
    cases rp
    exact OpOk.of_pure rfl hR (v' := .string .empty) (hexec (Go.Lib.run_unsafeString_none (P := E.P) w t t' o.type none)) (.string _)
  · have e1 := int_inv rn
    subst e1
    cases rp with
    | ptr hen =>
      rename_i en
      obtain ⟨c, hh, hcs, hoff, hle, hcell⟩ := hR.blk b _ en hb hen
      have hcel : ∀ j x, l[j]? = some x → w.cell? ((⟨en.blk, 0, none⟩ : Addr).add j) = some (.int .u8 x.toNat) := by
        intro j x hx
        rw [Addr.add_lit]
        simp only [World.cell?, hh]
        simpa using hcell j x hx
      have hr := Go.Lib.run_unsafeString_row (P := E.P) w t t' o.type e hu hcells en.blk c.size (by simp [World.shape?, hh, he1]) l (by intro h; simp [h] at hl0) (by omega) (by unfold room at hlr; omega) hcel
      rw [hoff] at hexec
      have hbn := Hp.lt_of_get hb
      have hfh : (w.freeze ⟨en.blk, 0, none⟩ l.length).heap.size = w.heap.size ∧ (∀ k, k ≠ en.blk → (w.freeze ⟨en.blk, 0, none⟩ l.length).heap[k]? = w.heap[k]?) ∧ (w.freeze ⟨en.blk, 0, none⟩ l.length).os = w.os ∧
          (w.freeze ⟨en.blk, 0, none⟩ l.length).output = w.output ∧ (w.freeze ⟨en.blk, 0, none⟩ l.length).tape = w.tape := by
        unfold World.freeze
        rw [if_neg (by omega)]
        exact ⟨by simp, fun k hk => by simp only [Array.getElem?_modify]; rw [if_neg (Ne.symm hk)], rfl, rfl, rfl⟩
      simp only [Hp.n_set] at hlim
      exact ⟨_, _, φ, .inl (hexec hr), .string _, post_end hR hen hb rfl hgb (by omega) hfh.1 hfh.2.1 hfh.2.2⟩
end
end Go.Ab
