/- slices.Sorted(maps.Keys(m)), whole. -/
import Derived.Test.YtlihoghjchbjlaaGreatZ09
import Derived.Test.YtlihoghjchbjlaaGreatZ08
import Derived.ProofKit
import Derived.OpenShut
import Derived.Below
import Derived.Deep.Slices
set_option linter.unusedSimpArgs false
set_option linter.unusedVariables false
set_option linter.unusedSectionVars false
namespace Go.Ab
open Go.MapKept
section
variable {E : Env} {K : Nat → Option Spec} {tf : Nat → Bool} {tx : Bool} {g : Nat} {rd : Option Nat} {U : MapCode} {T : List Value} {D : List Nat} {A : Hp} {Q : Ex → St → Prop}
theorem start_wp (hK : SpecsOk E K) {pre : List AOper} {x : Opd} {R : List Value → Hp → Prop} (hpre : WO E.AP K g pre T A R) {nt : Nat} {cc : Code} (hcc : compCode E.P E.lab nt cc = some (.seq (.ops (pre ++ [⟨some U.tI, none, [], .rangeI x⟩])) (.block U.bL (.loop U.round)))) (htx : tx = true → allText cc = true)
    {φ : NM} {a : Act} {w : World} {ro : Option Nat} (hT : RelT E.lab φ nt T a.tmps) (hR : RelI E φ A w) (Qc : Exit → Act → World → Prop)
    (hnext : ∀ (T1 : List Value) (A1 : Hp) (φ1 : NM) (a1 : Act) (w1 : World) (ue : Ent) (u : Value) (t kt el : TypeId) (dst : Option Nat) (lc : Code), R T1 A1 → HK g A A1 → RelT E.lab φ1 nt T1 a1.tmps → PostI E φ A w g φ1 A1 w1 → a1.defers = a.defers → RelV E.lab φ1 (ev T1 x) u →
      E.P.underlying t = some (.map kt el) → compDst nt dst = true → dst = some U.tI → compCode E.P E.lab nt lc = some U.round → (tx = true → allText lc = true) →
      ∃ v' w2, (Instr.range t u).run E.P w1 = .ok v' w2 ∧ LoopIn (fence ro) 0 E.P lc (Exit.inBlock U.bL Qc) (a1.put dst v') w2) : wpc E cc ro Qc a w := by
  obtain ⟨r1, s1, rfl, hr1, hs1⟩ := comp_seq hcc
  obtain ⟨id1, ops1, d1, rfl, hops1, _⟩ := comp_ops hr1
  obtain ⟨lp, rfl, hlp⟩ := comp_block hs1
  obtain ⟨lc, rfl, hlc⟩ := comp_loop hlp
  have hf := formed_of hops1
  have hsz : ops1.size = pre.length + 1 := by rw [← hf.1]; simp
  obtain ⟨o0, ho0⟩ : ∃ o, ops1[pre.length]? = some o := ⟨ops1[pre.length], by simp [hsz]⟩
  obtain ⟨ro0, hop0, hgd0, hds0, hdst0⟩ := hf.2 pre.length o0 ⟨some U.tI, none, [], .rangeI x⟩ ho0 (by simp)
  obtain ⟨t, z0, kt, el, hz0, hu, hzc⟩ := comp_rangeI hop0
  have hd1 : d1 = false := no_draw hops1 pre.length o0 (by simpa using ho0) (by rw [hz0]; rfl)
  subst hd1
  obtain ⟨m, d, T1, A1, hop, hR1⟩ := hpre
  obtain ⟨s, hs0, hs1', hs2⟩ := opsA_states hop
  have hks := callV_keeps (AP := E.AP) hK.keeps (exec_keeps (AP := E.AP) hK.keeps m d)
  refine wpIn_seq (wpIn_region ?_)
  have hrg : List.range ops1.size = List.range' 0 pre.length ++ [pre.length] := by rw [hsz, List.range_eq_range', List.range'_concat]; simp
  rw [hrg]
  refine text_to (g := g) (lim := A1.n) (j0 := 0) (n := pre.length) (st := s) (callV_sound hK (exec_sound hK m d) (exec_keeps hK.keeps m d)) hks hf (by simp) ?_ (by simp [hs1']) pre.length 0 (Nat.le_refl _) (by omega) φ a w (by rw [hs0]; exact hT) (by rw [hs0]; exact hR.at _) ro [pre.length] _ ?_
  · intro i o _ h2 hio
    rw [List.getElem?_append_left h2] at hio
    exact hs2 i o hio
  intro φ1 a1 w1 hT1 hP1 hd1
  rw [hs1'] at hT1 hP1
  rw [hs0] at hP1
  have hP1' : PostI E φ A w g φ1 A1 w1 := hP1
  obtain ⟨v', w2, hrun, hfin⟩ := hnext T1 A1 φ1 a1 w1 ⟨0, 0, 0⟩ (a1.eval z0) t kt el o0.dst lc hR1 (opsA_keeps hks hop) hT1 hP1' hd1 (hT1.eval hzc) hu hds0 hdst0.symm hlc (fun h => by have := htx h; simp only [allText, Bool.and_eq_true] at this; exact this.2)
  have hg0 : compGuard nt ops1.toList o0.guard = some none := hgd0
  refine one_wp (ao := ⟨some U.tI, none, [], .rangeI x⟩) ho0 hg0 rfl hT1 (by rw [hz0]; exact range_no) (v' := v') (w' := w2) (by simp [execOp, hz0, hrun]) ?_
  exact wpIn_block (wpIn_of_loopIn hfin)
theorem ptrY_rel {φ : NM} {y : Nat} {e : Ent} (h : φ y = some e) (h0 : e.off = 0) : RelV E.lab φ (ptrY y) (.pointer (some ⟨e.blk, 0, none⟩)) := by
  have := RelV.ptr (lab := E.lab) (o := 0) h
  rw [h0] at this
  exact this
theorem map_start (hK : SpecsOk E K) {pre : List AOper} {x : Opd} {R : List Value → Hp → Prop} {m : List Value → Hp → Nat} {l : List Value → Hp → List (Value × Value)} {lk : List Value → Hp → Option (Array MapEntry × Nat)}
    (hpre : WO E.AP K g pre T A R) (hx : ∀ T1 A1, R T1 A1 → ev T1 x = .map (some (m T1 A1)) ∧ A1.get (m T1 A1) = some (.map (l T1 A1) (lk T1 A1)))
    (hit : ∀ T1 A1 gh gi, R T1 A1 → (lk T1 A1 = none ∨ lk T1 A1 = some gh) →
        IterM E tx g rd U ⟨m T1 A1, l T1 A1, lk T1 A1, gh, A1.n⟩ (l T1 A1) ⟨tset T1 U.tI (ptrY A1.n), D, (A1.push (.iter gi)).set (m T1 A1) (some (.map (l T1 A1) (some gh)))⟩ Q) :
    CodeM E tx g rd (.seq (.ops (pre ++ [⟨some U.tI, none, [], .rangeI x⟩])) (.block U.bL (.loop U.round))) ⟨T, D, A⟩ Q := by
  intro nt cc hcc htx φ a w ro hT hD hR hrd Qc hQ
  refine start_wp hK hpre hcc htx hT hR Qc ?_
  intro T1 A1 φ1 a1 w1 _ u t kt el dst lc hR1 hHK hT1 hP1 hd1 hu hty hds hdst hlc htl
  obtain ⟨hx1, hx2⟩ := hx T1 A1 hR1
  rw [hx1] at hu
  obtain ⟨em, hem, rfl⟩ := map_inv hu
  have hI1 := PostI.relI hR hP1
  obtain ⟨es, cl, l', h1, h2, h3, h4, h5, h6⟩ := hI1.2.blk _ _ em hx2 hem
  refine ⟨_, _, run_range_map w1 t kt el em.blk es cl hty h1, ?_⟩
  obtain ⟨w2, hw2⟩ : ∃ w2, w2 = w1.alloc (.mapIter (some em.blk) cl #[] cl) := ⟨_, rfl⟩
  have hpush : Post E (A1.n + 1) φ1 A1 w1 g (ins φ1 A1.n ⟨w1.heap.size, 0, 0⟩) (A1.push (.iter (some em.blk, cl, #[], cl))) w2 := by
    rw [hw2]
    exact post_push (hI1.at _) (by omega) (obj := .mapIter (some em.blk) cl #[] cl) rfl ⟨rfl, rfl, rfl⟩ (Go.heap_alloc_new _ _)
  rw [← hw2]
  have hpush' : PostI E φ1 A1 w1 g (ins φ1 A1.n ⟨w1.heap.size, 0, 0⟩) (A1.push (.iter (some em.blk, cl, #[], cl))) w2 := hpush
  have hP2 := PostI.trans hR hP1 hpush'
  have hmn : m T1 A1 < A1.n := Hp.lt_of_get hx2
  have hem2 : ins φ1 A1.n ⟨w1.heap.size, 0, 0⟩ (m T1 A1) = some em := by rw [ins_other (by omega)]; exact hem
  have hget2 : (A1.push (.iter (some em.blk, cl, #[], cl))).get (m T1 A1) = some (.map (l T1 A1) (lk T1 A1)) := by rw [Hp.get_push, if_neg (by omega)]; exact hx2
  have hbold : w2.heap[em.blk]? = some (.map es cl) := by
    have hlt := hI1.2.wf _ _ hem
    rw [hw2]
    show (w1.heap.push _)[em.blk]? = _
    rw [Array.getElem?_push, if_neg (by omega)]; exact h1
  have hlk : lk T1 A1 = none ∨ lk T1 A1 = some (es, cl) := by
    cases hl : lk T1 A1 with
    | none => exact .inl rfl
    | some gh => exact .inr (by rw [h6 gh hl])
  have hP3 : PostI E φ A w g (ins φ1 A1.n ⟨w1.heap.size, 0, 0⟩) ((A1.push (.iter (some em.blk, cl, #[], cl))).set (m T1 A1) (some (.map (l T1 A1) (some (es, cl))))) w2 := by
    refine hP2.relabel hem2 hget2 rfl ⟨es, cl, l', hbold, h2, h3, h4, h5.mono hpush'.ext, fun gh hgh => by cases hgh; rfl⟩
  have hset := fun y => Hp.get_set hget2 (some (.map (l T1 A1) (some (es, cl)))) y
  refine hit T1 A1 (es, cl) (some em.blk, cl, #[], cl) hR1 hlk nt lc hlc htl ⟨T, D, A⟩ φ w (ins φ1 A1.n ⟨w1.heap.size, 0, 0⟩) _ w2 ro em ⟨w1.heap.size, 0, 0⟩ #[]
    ⟨hR, hP1.len, ?_, ?_, hrd.mono (hP1.ext.trans hpush'.ext), hP3, ?_, hem2, ins_same _ _ _, rfl, ?_, ?_, ?_, hlk⟩ Qc hQ
  · have := (hT1.mono hpush'.ext).put hds (ptrY_rel (E := E) (ins_same φ1 A1.n ⟨w1.heap.size, 0, 0⟩) rfl)
    rw [hdst] at this ⊢
    exact this
  · rw [put_defers, hd1]; exact hD.mono (hP1.ext.trans hpush'.ext)
  · refine ⟨⟨by have := hHK.1; show A.n ≤ A1.n + 1; omega, fun y hy hg => ?_⟩, [], rfl, by simp⟩
    have hlen := hHK.1
    have hy' : y < A.n := hy
    show (MapRun.free _ _).get y = A.get y
    unfold MapRun.free
    have e1 : ((A1.push (.iter (some em.blk, cl, #[], cl))).set (m T1 A1) (some (.map (l T1 A1) (some (es, cl))))).get (m T1 A1) = some (.map (l T1 A1) (some (es, cl))) := by rw [hset, if_pos rfl]
    rw [Hp.get_set e1]
    by_cases hym : y = m T1 A1
    · rw [if_pos hym]
      have := hHK.2 y hy' hg
      rw [hym] at this ⊢
      rw [← this, hx2]
    · rw [if_neg hym, hset, if_neg hym, Hp.get_push, if_neg (by omega)]
      exact hHK.2 y hy' hg
  · show _ = _
    rw [hset, if_pos rfl]
  · show ((A1.push (.iter (some em.blk, cl, #[], cl))).set (m T1 A1) _).get A1.n = _
    rw [hset, if_neg (by omega), Hp.get_push, if_pos rfl]
  · refine ⟨l', h3, ?_⟩
    have : leftOf es #[] = es := by
      unfold leftOf
      exact Array.filter_eq_self.2 fun x _ => by simp
    show RelM E.lab _ l' (leftOf es #[]).toList
    rw [this]
    exact h5.mono hpush'.ext
def TextsOk (E : Env) (tf : Nat → Bool) : Prop := ∀ f f' fn c, tf f = true → E.lab f' = f → E.P.funcs[f']? = some fn → fn.body = some c → allText c = true
theorem WN_sound (hK : SpecsOk E K) (htf : TextsOk E tf) {G : NG} (h : WN E.AP K tf G) : NM' E G := by
  induction h with
  | @det tx g rd c st Q h =>
    obtain ⟨m, d, ex, st', hr, hq⟩ := h
    intro nt cc hcc htx φ a w ro hT hD hR hrd Qc hQ
    exact exec_sound hK m d nt cc c hcc g rd st ex st' hr st'.A.n φ a w ro (Nat.le_refl _) hT hD (hR.at _) hrd Qc fun φ' a' w' k1 k2 k3 => hQ ex st' φ' a' w' hq (exec_keeps hK.keeps m d c g rd st ex st' hr) k1 k2 k3
  | @detF g f args A Q hfn h =>
    obtain ⟨m, d, v, A', hr, hq⟩ := h
    intro φ w f' args' hlab hrel hR
    have hs := callA_sound hK hr hfn A'.n φ w f' args' (Nat.le_refl _) hlab hrel (hR.at _)
    have hk := callF_keeps hK.keeps (exec_keeps (AP := E.AP) hK.keeps m d) _ _ _ _ _ _ hr
    refine hs.mono ?_
    rintro e w' ⟨v', φ', rfl, hv, hP⟩
    exact ⟨v, A', v', φ', hq, hk, rfl, hv, hP⟩
  | @seq tx g rd x y st Q Q1 _ _ hx iha ihb =>
    intro nt cc hcc htx φ a w ro hT hD hR hrd Qc hQ
    obtain ⟨x', y', rfl, hx', hy'⟩ := comp_seq hcc
    refine wpIn_seq (iha nt x' hx' (fun h => by have := htx h; simp only [allText, Bool.and_eq_true] at this; exact this.1) φ a w ro hT hD hR hrd _ fun ex st' φ' a' w' hq hsk hT' hD' hP' => ?_)
    cases ex with
    | normal =>
      refine ihb st' hq nt y' hy' (fun h => by have := htx h; simp only [allText, Bool.and_eq_true] at this; exact this.2) φ' a' w' ro hT' hD' (PostI.relI hR hP') (hrd.mono hP'.ext) Qc fun ex2 st2 φ2 a2 w2 hq2 hsk2 hT2 hD2 hP2 => ?_
      exact hQ ex2 st2 φ2 a2 w2 hq2 (hsk.trans hsk2) hT2 hD2 (PostI.trans hR hP' hP2)
    | ret => exact hQ .ret st' φ' a' w' (hx _ _ (by simp) hq) hsk hT' hD' hP'
    | exit i => exact hQ (.exit i) st' φ' a' w' (hx _ _ (by simp) hq) hsk hT' hD' hP'
  | @cond tx g rd x ca cb st Q t hev _ _ iha ihb =>
    intro nt cc hcc htx φ a w ro hT hD hR hrd Qc hQ
    obtain ⟨z, y1, y2, rfl, hz, hy1, hy2⟩ := comp_cond hcc
    have hz' := hT.eval hz
    rw [hev] at hz'
    cases t with
    | true => exact wpIn_cond_true (bool_inv hz') (iha rfl nt y1 hy1 (fun h => by have := htx h; simp only [allText, Bool.and_eq_true] at this; exact this.1) φ a w ro hT hD hR hrd Qc hQ)
    | false => exact wpIn_cond_false (bool_inv hz') (ihb rfl nt y2 hy2 (fun h => by have := htx h; simp only [allText, Bool.and_eq_true] at this; exact this.2) φ a w ro hT hD hR hrd Qc hQ)
  | @block tx g rd id c st Q _ ih =>
    intro nt cc hcc htx φ a w ro hT hD hR hrd Qc hQ
    obtain ⟨x, rfl, hx⟩ := comp_block hcc
    refine wpIn_block (ih nt x hx htx φ a w ro hT hD hR hrd _ fun ex st' φ' a' w' hq hsk hT' hD' hP' => ?_)
    cases ex with
    | normal => exact hQ .normal st' φ' a' w' hq hsk hT' hD' hP'
    | ret => exact hQ .ret st' φ' a' w' hq hsk hT' hD' hP'
    | exit i =>
      show (if i = id then Qc .normal a' w' else Qc (.exit i) a' w')
      simp only [BlkQ] at hq
      split at hq
      · rename_i hi
        rw [if_pos hi]; exact hQ .normal st' φ' a' w' hq hsk hT' hD' hP'
      · rename_i hi
        rw [if_neg hi]; exact hQ (.exit i) st' φ' a' w' hq hsk hT' hD' hP'
  | @loop tx g rd c st Q _ ih =>
    intro nt cc hcc htx φ a w ro hT hD hR hrd Qc hQ
    obtain ⟨x, rfl, hx⟩ := comp_loop hcc
    exact wpIn_of_loopIn (ih nt x hx htx φ a w ro hT hD hR hrd Qc hQ)
  | @round tx g rd c st Q Q1 _ _ hx iha ihb =>
    intro nt cc hcc htx φ a w ro hT hD hR hrd Qc hQ
    refine loopIn_step (iha nt cc hcc htx φ a w ro hT hD hR hrd _ fun ex st' φ' a' w' hq hsk hT' hD' hP' => ?_)
    cases ex with
    | normal =>
      refine ihb st' hq nt cc hcc htx φ' a' w' ro hT' hD' (PostI.relI hR hP') (hrd.mono hP'.ext) Qc fun ex2 st2 φ2 a2 w2 hq2 hsk2 hT2 hD2 hP2 => ?_
      exact hQ ex2 st2 φ2 a2 w2 hq2 (hsk.trans hsk2) hT2 hD2 (PostI.trans hR hP' hP2)
    | ret => exact hQ .ret st' φ' a' w' (hx _ _ (by simp) hq) hsk hT' hD' hP'
    | exit i => exact hQ (.exit i) st' φ' a' w' (hx _ _ (by simp) hq) hsk hT' hD' hP'
  | @range tx g T D A Q f ps asg body h first captured hf _ ih =>
    intro nt cc hcc htx φ a w ro hT hD hR hrd Qc hQ
    obtain ⟨z, qs, ca, cb, rfl, hz, ha, hb, hqs, hps⟩ := comp_range hcc
    cases hrd
    have rf := hT.eval hz
    rw [hf] at rf
    obtain ⟨gf, first', captured', hu, hlab, r1, r2⟩ := func_inv rf
    refine wpIn_rangeFunc fun fn _ => ?_
    have hP1 : Post E (A.n + 1) φ A w g (ins φ A.n ⟨w.heap.size, 0, 0⟩) (A.push .marks) (w.alloc (.deferred (some []))) :=
      post_push (hR.at _) (Nat.lt_succ_self A.n) rfl ⟨rfl, rfl, rfl⟩ (World.alloc_heap_new w _)
    have hP1' : PostI E φ A w g (ins φ A.n ⟨w.heap.size, 0, 0⟩) (A.push .marks) (w.alloc (.deferred (some []))) := hP1
    have hR1 := PostI.relI hR hP1'
    have hfresh1 : ins φ A.n ⟨w.heap.size, 0, 0⟩ (A.push .marks).n = none := by
      cases hx : ins φ A.n ⟨w.heap.size, 0, 0⟩ (A.push .marks).n with
      | none => rfl
      | some e => have := hR1.1 _ _ hx; omega
    have hP2 := post_push (lo := g) (b := recL T ps asg body)
      (obj := .loop { state := .ready, pending := none, fn, tmps := a.tmps, params := qs, assign := ca, body := cb, defers := w.heap.size }) (size := 0) (hR1.at ((A.push .marks).n + 1)) (by omega)
      (w1 := (w.alloc (.deferred (some []))).alloc (.loop { state := .ready, pending := none, fn, tmps := a.tmps, params := qs, assign := ca, body := cb, defers := w.heap.size })) rfl ⟨rfl, rfl, rfl⟩
      ⟨_, nt, World.alloc_heap_new _ _, rfl, rfl, hqs, hqs ▸ hps, ha, hb, hT.mono (hP1'.ext.trans (ext_ins hfresh1))⟩
    have hP2' : PostI E _ _ _ g _ ((A.push .marks).push (recL T ps asg body)) _ := hP2
    have hP := PostI.trans hR hP1' hP2'
    have hR2 := PostI.relI hR hP
    obtain ⟨φ2, hφ2⟩ : ∃ φ2, φ2 = ins (ins φ A.n ⟨w.heap.size, 0, 0⟩) (A.push .marks).n ⟨(w.alloc (.deferred (some []))).heap.size, 0, 0⟩ := ⟨_, rfl⟩
    rw [← hφ2] at hP hR2
    obtain ⟨w2, hw2⟩ : ∃ w2, w2 = (w.alloc (.deferred (some []))).alloc (.loop { state := .ready, pending := none, fn, tmps := a.tmps, params := qs, assign := ca, body := cb, defers := w.heap.size }) := ⟨_, rfl⟩
    rw [← hw2] at hP hR2
    have hl2 : φ2 (A.n + 1) = some ⟨w.heap.size + 1, 0, 0⟩ := by
      rw [hφ2]
      have : (w.alloc (.deferred (some []))).heap.size = w.heap.size + 1 := by simp
      rw [this]
      exact ins_same _ _ _
    have hd2 : φ2 A.n = some ⟨w.heap.size, 0, 0⟩ := by
      rw [hφ2, ins_other (by simp)]; exact ins_same _ _ _
    have hargs : RelL E.lab φ2 (first ++ [.func (.yield (A.n + 1)) #[] #[]] ++ captured) (first'.toList ++ [.func (.yield (w.heap.size + 1)) #[] #[]] ++ captured'.toList) := by
      have r1' : RelL E.lab φ first first'.toList := r1
      have r2' : RelL E.lab φ captured captured'.toList := r2
      exact ((r1'.mono hP.ext).append (RelL.cons (.yield hl2) RelL.nil)).append (r2'.mono hP.ext)
    have hc := ih φ2 w2 gf _ hlab hargs hR2
    have harr : (first'.toList ++ [Value.func (.yield (w.heap.size + 1)) #[] #[]] ++ captured'.toList).toArray = first' ++ #[Value.func (.yield (w.heap.size + 1)) #[] #[]] ++ captured' := by
      apply Array.toList_inj.1; simp
    rw [harr] at hc
    have hap : ∃ nt rs body, E.AP h = some (.fn nt rs body) := by
      cases ‹WN E.AP K tf (.fn g h _ _ _)› with
      | detF hfn _ => exact hfn
      | body _ hap _ => exact ⟨_, _, _, hap⟩
    obtain ⟨nt', rs, bd, hap⟩ := hap
    obtain ⟨fun_, hfun, hcomp⟩ := E.ok gf _ (by rw [hlab]; exact hap)
    obtain ⟨c0, hb0, _, _, _, hname⟩ := compFunc_inv hcomp
    have henter : (Instr.enterLoop fn a.tmps qs ca cb (fence none).round).run E.P w = .ok (w.heap.size + 1, [{ target := .collected w.heap.size, args := #[] }]) w2 := by
      rw [hw2]; exact run_enterLoop_outer _ _ _ _ _
    refine ⟨w.heap.size + 1, [{ target := .collected w.heap.size, args := #[] }], w2, { target := .fn (.func gf) captured', args := first' ++ #[Value.func (.yield (w.heap.size + 1)) #[] #[]] }, w2, gf, _, w2, henter, ?_, fun _ _ => trivial, ?_, fun h => (by cases h), CallsIn.mono (callsIn_fence hc) ?_⟩
    · have hconst : a.eval (.const (.func (.yield (w.heap.size + 1)) #[] #[])) = .func (.yield (w.heap.size + 1)) #[] #[] := rfl
      simp [resolve, hu, hconst, Deferred.ofValue]
    · simp [invoke, callFunc, hfun, hb0, hname]
    · rintro en w3 ⟨v, A3, v', φ3, hq, hHK, rfl, hv, hP3⟩
      have hPall := PostI.trans hR hP hP3
      obtain ⟨ex, st', he, hqq⟩ := endLoop_of hq
      have hn0 : φ (A.n + 1) = none := by
        cases hx : φ (A.n + 1) with
        | none => rfl
        | some e => have : A.n + 1 < A.n := hR.1 _ _ hx; omega
      obtain ⟨e1, e2, e3, w4, hend, hP4⟩ := endLoop_sound hPall (hP3.ext _ _ hl2) hn0 he
      have hsk : SK g ⟨T, D, A⟩ st' := endLoopA_keeps (st := ⟨T, D, A⟩) (fun v' A' heq => by cases heq; exact ((HK.push g A _).trans (HK.push g _ _)).trans hHK) (Nat.le_succ _) ⟨[A.n], rfl, by simp⟩ he
      refine ⟨_, w4, hend, ?_⟩
      have hP4' : PostI E φ A w g φ3 st'.A w4 := by
        unfold PostI
        rw [e3]; exact hP4
      have fin := hQ ex st' φ3 { a with defers := [{ target := .collected w.heap.size, args := #[] }] ++ a.defers } w4 hqq hsk (by rw [e1]; exact hT.mono (hP.ext.trans hP3.ext)) (by rw [e2]; exact .cons (hP3.ext _ _ hd2) (hD.mono (hP.ext.trans hP3.ext))) hP4'
      cases ex with
      | normal => exact fin
      | ret => exact wpIn_ret fin
      | exit id => exact wpIn_exit fin
  | @body g f nt rs c args A Q hKf hap _ ih =>
    intro φ w f' args' hlab hargs hR
    obtain ⟨fn, hfn, hcf⟩ := E.ok f' _ (by rw [hlab]; exact hap)
    obtain ⟨c', hb, hnt, hc, hrs, _⟩ := compFunc_inv hcf
    refine callsIn_of_wp_marks hfn hb trivial ?_
    refine ih nt c' hc (fun h => htf f f' fn c' h hlab hfn hb) φ _ w none (by rw [hnt]; exact relT_args hargs) .nil hR .none _ fun ex st' φ' a' w' hq hsk hT hD hP => ?_
    obtain ⟨hHK, ns, hns, hmk⟩ := hsk
    have hP0 : PostI E φ A w g φ' st'.A w' := hP
    have fin : ∀ A', takeMarks st'.A st'.D = some A' → ∀ v, resA rs st'.T A' = some v → Q v A' → LeavesInM (fence none) 0 E.P fn a'.tmps (fun e w' => ∃ v A' v' φ', Q v A' ∧ HK g A A' ∧ e = .returned v' ∧ RelV E.lab φ' v v' ∧ PostI E φ A w g φ' A' w') a'.defers .returning w' := by
      intro A' hmarks v hres hqv
      have hn := takeMarks_n hmarks
      refine leaves (hR.at st'.A.n) hD hP0 hmarks (Nat.le_refl _) (fun x hx => hmk x (by rw [hns] at hx; simpa using hx)) fun w2 hP2 => ?_
      obtain ⟨v', hv', hrel⟩ := results_run hT hP2.rel hrs hres
      exact ⟨v', hv', v, A', v', φ', hqv, takeMarks_keeps (A := A) hHK (fun x hx => hmk x (by rw [hns] at hx; simpa using hx)) hmarks, rfl, hrel, by unfold PostI; rw [hn]; exact hP2⟩
    cases ex with
    | exit i => cases hq
    | normal =>
      simp only [FinQ] at hq
      split at hq
      · rename_i A' hm
        cases hu : resA rs st'.T A' with
        | none => rw [hu] at hq; cases hq
        | some v => rw [hu] at hq; exact fin A' hm v hu hq
      · cases hq
    | ret =>
      simp only [FinQ] at hq
      split at hq
      · rename_i A' hm
        cases hu : resA rs st'.T A' with
        | none => rw [hu] at hq; cases hq
        | some v => rw [hu] at hq; exact fin A' hm v hu hq
      · cases hq
  | @call g rd pre post dst f args hh vs T D A Q R V hpre hf _ hpost ih =>
    intro nt cc hcc htx φ a w ro hT hD hR hrd Qc hQ
    obtain ⟨id1, ops1, d1, rfl, hops1, _⟩ := comp_ops hcc
    have hd1 : d1 = false := by have := htx rfl; simpa [allText] using this
    subst hd1
    have hfm := formed_of hops1
    have hsz : ops1.size = pre.length + (1 + post.length) := by rw [← hfm.1]; simp; omega
    obtain ⟨o0, ho0⟩ : ∃ o, ops1[pre.length]? = some o := ⟨ops1[pre.length], by simp [hsz]⟩
    obtain ⟨ro0, hop0, hgd0, hds0, hdst0⟩ := hfm.2 pre.length o0 ⟨dst, none, [], .call f args false⟩ ho0 (by simp)
    obtain ⟨c, z, hoc, hcal, hzc, hac⟩ := comp_call hop0
    obtain ⟨m, d, T1, A1, hop, hR1⟩ := hpre
    obtain ⟨s, hs0, hs1', hs2⟩ := opsA_states hop
    have hks := callV_keeps (AP := E.AP) hK.keeps (exec_keeps (AP := E.AP) hK.keeps m d)
    refine wpIn_region ?_
    have hrg : List.range ops1.size = List.range' 0 pre.length ++ (pre.length :: (List.range' (pre.length + 1) post.length ++ [])) := by
      rw [hsz, List.range_eq_range', ← List.range'_append_1]
      simp [Nat.add_comm 1, List.range'_succ]
    rw [hrg]
    refine text_to (g := g) (lim := A1.n) (j0 := 0) (n := pre.length) (st := s) (callV_sound hK (exec_sound hK m d) (exec_keeps hK.keeps m d)) hks hfm (by simp) ?_ (by simp [hs1']) pre.length 0 (Nat.le_refl _) (by omega) φ a w (by rw [hs0]; exact hT) (by rw [hs0]; exact hR.at _) ro _ _ ?_
    · intro i o _ h2 hio
      rw [List.getElem?_append_left h2] at hio
      exact hs2 i o hio
    intro φ1 a1 w1 hT1 hP1 hd1
    rw [hs1'] at hT1 hP1
    rw [hs0] at hP1
    have hP1' : PostI E φ A w g φ1 A1 w1 := hP1
    have hI1 := PostI.relI hR hP1'
    obtain ⟨first, captured, hev, hvs⟩ := hf T1 A1 hR1
    have hap : ∃ nt rs body, E.AP (hh T1 A1) = some (.fn nt rs body) := by
      cases ‹∀ T1 A1, R T1 A1 → WN E.AP K tf (.fn g (hh T1 A1) (vs T1 A1) A1 (V T1 A1))› T1 A1 hR1 with
      | detF hfn _ => exact hfn
      | body _ hap _ => exact ⟨_, _, _, hap⟩
    have rf := hT1.eval hzc
    rw [hev] at rf
    have rl := hT1.evals hac
    obtain ⟨fi, first', captured', hu, hlab, r1, r2⟩ := func_inv rf
    obtain ⟨nt', rs, bd, hap⟩ := hap
    obtain ⟨fn, hfn, hcf⟩ := E.ok fi _ (by rw [hlab]; exact hap)
    obtain ⟨cb, hb, _, _, _, hname⟩ := compFunc_inv hcf
    have hg0 : compGuard nt ops1.toList o0.guard = some none := hgd0
    have hw := wanted_eq (ops := ops1) (o := o0) hg0 hT1
    simp only [wpOpsIn, ho0]
    rw [hw]
    refine ⟨fun f _ => trivial, ?_⟩
    rw [fence_round, Oper.semAt_eq ro a1.eval o0 (by rw [hoc]; intro c hc; cases hc)]
    have hrun : (execOp a1.eval o0).run E.P w1 = .ok (.enter fi (first' ++ c.args.map a1.eval ++ captured')) w1 := by
      have : execOp a1.eval o0 = invoke (.fn (.func fi) captured') (first' ++ c.args.map a1.eval) := by
        simp [execOp, hoc, resolve, hcal, hu, Deferred.ofValue]
      rw [this]
      simp [invoke, callFunc, hfn, hname, hb]
    rw [hrun]
    refine ⟨fun h => (by cases h), ?_⟩
    have hargs : RelL E.lab φ1 (vs T1 A1) (first'.toList ++ c.args.toList.map a1.eval ++ captured'.toList) := by
      rw [hvs]
      exact (RelL.append (RelL.append r1 rl) r2)
    have hcall := ih T1 A1 hR1 φ1 w1 fi _ hlab hargs hI1
    have harr : (first'.toList ++ c.args.toList.map a1.eval ++ captured'.toList).toArray = first' ++ c.args.map a1.eval ++ captured' := by
      apply Array.toList_inj.1; simp
    rw [harr] at hcall
    refine CallsIn.mono (callsIn_fence hcall) ?_
    rintro e w2 ⟨v, A2, v', φ2, hv, hHK, rfl, hvr, hP2⟩
    have hPall := PostI.trans hR hP1' hP2
    have hI2 := PostI.relI hI1 hP2
    obtain ⟨m2, d2, T3, A3, hop3, hq3⟩ := hpost T1 A1 v A2 hR1 hv
    obtain ⟨s3, hs30, hs31, hs32⟩ := opsA_states hop3
    have hks3 := callV_keeps (AP := E.AP) hK.keeps (exec_keeps (AP := E.AP) hK.keeps m2 d2)
    have hT2 : RelT E.lab φ2 nt (putA dst T1 v) (a1.put o0.dst v').tmps := by
      have := (hT1.mono hP2.ext).put hds0 hvr
      rw [← hdst0] at this ⊢
      exact this
    refine text_to (g := g) (lim := A3.n) (j0 := pre.length + 1) (n := pre.length + (1 + post.length)) (st := fun i => s3 (i - (pre.length + 1))) (callV_sound hK (exec_sound hK m2 d2) (exec_keeps hK.keeps m2 d2)) hks3 hfm (by simp; omega) ?_
      (by simp only [show pre.length + (1 + post.length) - (pre.length + 1) = post.length by omega, hs31]; exact Nat.le_refl _) post.length (pre.length + 1) (Nat.le_refl _) (by omega) φ2 _ w2 (by simp only [Nat.sub_self, hs30]; exact hT2) (by simp only [Nat.sub_self, hs30]; exact hI2.at _) ro [] _ ?_
    · intro i o h1 h2 hio
      rw [List.getElem?_append_right (by omega)] at hio
      obtain ⟨j, hj⟩ : ∃ j, i = pre.length + 1 + j := ⟨i - (pre.length + 1), by omega⟩
      subst hj
      rw [show pre.length + 1 + j - pre.length = j + 1 by omega, List.getElem?_cons_succ] at hio
      have := hs32 j o hio
      simp only [show pre.length + 1 + j - (pre.length + 1) = j by omega, show pre.length + 1 + j + 1 - (pre.length + 1) = j + 1 by omega]
      exact this
    intro φ3 a3 w3 hT3 hP3 hd3
    simp only [show pre.length + (1 + post.length) - (pre.length + 1) = post.length by omega, Nat.sub_self, hs30, hs31] at hT3 hP3
    have hP3' : PostI E φ2 A2 w2 g φ3 A3 w3 := hP3
    refine hQ .normal ⟨T3, D, A3⟩ φ3 a3 w3 hq3 ?_ hT3 ?_ (PostI.trans hR hPall hP3')
    · exact ⟨(opsA_keeps hks hop).trans (hHK.trans (opsA_keeps hks3 hop3)), [], rfl, by simp⟩
    · have : a3.defers = a.defers := by rw [hd3, put_defers, hd1]
      rw [this]
      exact hD.mono (hPall.ext.trans hP3'.ext)
  | @map tx g rd U pre x T D A Q R m l lk hpre hx _ ih => exact map_start hK hpre hx ih
  | @over tx g rd U M T D A Q hI hq => exact iter_over hK hI hq
  | @step tx g rd U M left T D A Q R Q1 hne hU hI hops _ hkeep _ hret hexit ihr ihn => exact iter_step hK hne hU hI hops ihr hkeep ihn hret hexit
end
end Go.Ab
namespace Go.Ab
theorem AccS.weaken {N N' : Nat} {A : Hp} {k : Nat} {cs : List Value} {sv : Value} (h : AccS N A k cs sv) (hN : N' ≤ N) : AccS N' A k cs sv := by
  rcases h with h | ⟨b, n, h1, h2, h3, h4, h5⟩
  · exact .inl h
  · exact .inr ⟨b, n, h1, h2, by omega, h4, h5⟩
theorem AccS.cases {N k : Nat} {A : Hp} {cs : List Value} {sv : Value} (hk : 0 < k) (h : AccS N A k cs sv) : (cs = [] ∧ sv = .slice none 0 0) ∨ ∃ b, cs ≠ [] ∧ sv = .slice (some ⟨b, 0, some k⟩) (cs.length / k) (cs.length / k) ∧ A.get b = some (.cells cs false) ∧ N ≤ b := by
  rcases h with ⟨h1, h2⟩ | ⟨b, n, h1, h2, h3, h4, h5⟩
  · exact .inl ⟨h2, h1⟩
  · refine .inr ⟨b, ?_, ?_, h2, h3⟩
    · intro h; rw [h] at h4
      have := Nat.mul_pos h5 hk
      simp at h4; omega
    · rw [h4, Nat.mul_div_cancel _ hk]; exact h1
section
variable {E : Env} {K : Nat → Option Spec}
end
end Go.Ab
namespace Go.Ab
open Go
inductive Ty where
  | int (k : IntKind)
  | bool
  | str
  | unit
  | pair (a b : Ty)
  | slice (e : Ty)
def Ty.size : Ty → Nat
  | .unit => 0
  | .pair a b => a.size + b.size
  | _ => 1
def Ty.plain : Ty → Bool
  | .slice _ => false
  | .pair a b => a.plain && b.plain
  | _ => true
def Ty.rep : Nat → Ty → Ty
  | 0, _ => .unit
  | n + 1, e => .pair e (rep n e)
def fieldsTy (rec : TypeId → Option Ty) (P : Program) : Nat → List Field → Option Ty
  | _, [] => some .unit
  | off, f :: fs => match rec f.type with
    | some tf => if f.offset = off ∧ tf.size = P.cellsOf f.type then (fieldsTy rec P (off + tf.size) fs).map fun r => .pair tf r else none
    | none => none
def tyOf (P : Program) : Nat → TypeId → Option Ty
  | 0, _ => none
  | fuel + 1, t => match P.underlying t with
    | some .bool => some .bool
    | some (.int k) => some (.int k)
    | some .string => some .str
    | some (.slice e) => match tyOf P fuel e with
      | some te => if te.size = P.cellsOf e ∧ 0 < te.size then some (.slice te) else none
      | none => none
    | some (.struct fs) => match fieldsTy (tyOf P fuel) P 0 fs.toList with
      | some ty => if ty.size = P.cellsOf t then some ty else none
      | none => none
    | some (.array n e) => match tyOf P fuel e with
      | some te => if te.size = P.cellsOf e ∧ n * te.size = P.cellsOf t then some (.rep n te) else none
      | none => none
    | _ => none
def Sh (rows : List (List Value)) : Ty → List Value → Prop
  | .int k, cs => ∃ n, cs = [.int k n] ∧ (Lit.int k n).wf = true
  | .bool, cs => ∃ b, cs = [.bool b]
  | .str, cs => ∃ s : ByteArray, cs = [.string s] ∧ s.size ≤ maxLen
  | .unit, cs => cs = []
  | .pair a b, cs => ∃ l r, cs = l ++ r ∧ Sh rows a l ∧ Sh rows b r
  | .slice e, cs => cs = [.slice none 0 0] ∨ ∃ x n c row, cs = [.slice (some ⟨x, 0, some e.size⟩) n c] ∧ n ≤ maxLen ∧ rows[x]? = some row ∧ row.length = n * e.size ∧ (e.plain = true → row.all simple = true) ∧
      ∃ f : Nat → List Value, row = (List.range n).flatMap f ∧ ∀ i, i < n → Sh rows e (f i) ∧ (f i).length = e.size
theorem Sh.mono {rows rows' : List (List Value)} (h : ∀ (i : Nat) r, rows[i]? = some r → rows'[i]? = some r) : ∀ {t : Ty} {cs : List Value}, Sh rows t cs → Sh rows' t cs
  | .int _, _, hs => hs
  | .bool, _, hs => hs
  | .str, _, hs => hs
  | .unit, _, hs => hs
  | .pair a b, cs, ⟨l, r, h1, h2, h3⟩ => ⟨l, r, h1, Sh.mono h h2, Sh.mono h h3⟩
  | .slice e, cs, hs => by
    rcases hs with hs | ⟨x, n, c, row, h1, h2, h3, h4, h5, f, h6, h7⟩
    · exact .inl hs
    · exact .inr ⟨x, n, c, row, h1, h2, h _ _ h3, h4, h5, f, h6, fun i hi => ⟨Sh.mono h (h7 i hi).1, (h7 i hi).2⟩⟩
theorem Sh.length {rows : List (List Value)} : ∀ {t : Ty} {cs : List Value}, Sh rows t cs → cs.length = t.size
  | .int _, _, ⟨_, h, _⟩ => by rw [h]; rfl
  | .bool, _, ⟨_, h⟩ => by rw [h]; rfl
  | .str, _, ⟨_, h, _⟩ => by rw [h]; rfl
  | .unit, _, h => by rw [show _ = [] from h]; rfl
  | .pair a b, _, ⟨l, r, h1, h2, h3⟩ => by rw [h1, List.length_append, Sh.length h2, Sh.length h3]; rfl
  | .slice e, _, hs => by
    rcases hs with hs | ⟨x, n, c, row, h1, _⟩
    · rw [hs]; rfl
    · rw [h1]; rfl
theorem Sh.simple {rows : List (List Value)} : ∀ {t : Ty} {cs : List Value}, t.plain = true → Sh rows t cs → cs.all simple = true
  | .int _, _, _, ⟨_, h, _⟩ => by rw [h]; rfl
  | .bool, _, _, ⟨_, h⟩ => by rw [h]; rfl
  | .str, _, _, ⟨_, h, _⟩ => by rw [h]; rfl
  | .unit, _, _, h => by rw [show _ = [] from h]; rfl
  | .pair a b, _, hp, ⟨l, r, h1, h2, h3⟩ => by
    simp only [Ty.plain, Bool.and_eq_true] at hp
    rw [h1, List.all_append, Sh.simple hp.1 h2, Sh.simple hp.2 h3]; rfl
  | .slice e, _, hp, _ => by simp [Ty.plain] at hp
section
variable {H : Type} {enc : TypeId × Value → H} {E : Env} {w : World}
def Leads (w : World) (v : Value) : Prop := ∀ a n q, v = .slice (some a) n q → ∃ (b : Nat) (c : Array Value) (el : TypeId) (fr : Nat × Nat), w.heap[b]? = some (.cells c el fr)
structure Good (E : Env) (w : World) (rows : List (List Value)) (φ : NM) : Prop where
  dom : ∀ x, rows.length ≤ x → φ x = none
  row : ∀ i r, rows[i]? = some r → ∃ e, φ i = some e ∧ e.blk < w.heap.size ∧ RelB E φ w (.cells r true) e
def More (rows rows' : List (List Value)) : Prop := ∀ (i : Nat) r, rows[i]? = some r → rows'[i]? = some r
theorem More.refl (rows : List (List Value)) : More rows rows := fun _ _ h => h
theorem More.trans {a b c : List (List Value)} (h : More a b) (h' : More b c) : More a c := fun i r hr => h' i r (h i r hr)
theorem flat_at {n k : Nat} {f : Nat → List Value} (hf : ∀ q, q < n → (f q).length = k) : ∀ {i : Nat} {v : Value}, ((List.range n).flatMap f)[i]? = some v → ∃ q r, q < n ∧ r < k ∧ i = q * k + r ∧ (f q)[r]? = some v := by
  induction n with
  | zero => intro i v h; simp at h
  | succ n ih =>
    intro i v h
    have hlen : ((List.range n).flatMap f).length = n * k := by
      have : ∀ m, m ≤ n → ((List.range m).flatMap f).length = m * k := by
        intro m
        induction m with
        | zero => intro _; simp
        | succ m ihm => intro hm; rw [List.range_succ, List.flatMap_append, List.length_append, ihm (by omega), Nat.succ_mul]; simp [hf m (by omega)]
      exact this n (Nat.le_refl _)
    rw [List.range_succ, List.flatMap_append] at h
    by_cases hi : i < n * k
    · rw [List.getElem?_append_left (by rw [hlen]; exact hi)] at h
      obtain ⟨q, r, h1, h2, h3, h4⟩ := ih (fun q hq => hf q (by omega)) h
      exact ⟨q, r, by omega, h2, h3, h4⟩
    · rw [List.getElem?_append_right (by rw [hlen]; omega), hlen] at h
      have h' : (f n)[i - n * k]? = some v := by simpa using h
      have hlt := (List.getElem?_eq_some_iff.1 h').1
      rw [hf n (by omega)] at hlt
      exact ⟨n, i - n * k, by omega, hlt, by omega, h'⟩
theorem flat_len {n k : Nat} {f : Nat → List Value} (hf : ∀ q, q < n → (f q).length = k) : ((List.range n).flatMap f).length = n * k := by
  induction n with
  | zero => simp
  | succ n ih => rw [List.range_succ, List.flatMap_append, List.length_append, ih fun q hq => hf q (by omega), Nat.succ_mul]; simp [hf n (by omega)]
theorem cell_add {a : Addr} {c : Array Value} {el : TypeId} {fr : Nat × Nat} (hs : a.spot = none) (hb : w.heap[a.block]? = some (.cells c el fr)) (j : Nat) : w.cell? (a.add j) = c[a.off + j]? := by
  obtain ⟨b, off, spot⟩ := a
  subst hs
  unfold Addr.add World.cell?
  by_cases hj : j = 0
  · subst hj; simp at hb ⊢; simp [hb]
  · simp [hj] at hb ⊢; simp [hb]
theorem Good.push {rows : List (List Value)} {φ : NM} (h : Good E w rows φ) {r : List Value} {e : Ent} (hb : e.blk < w.heap.size) (hB : RelB E φ w (.cells r true) e) :
    Good E w (rows ++ [r]) (fun x => if x = rows.length then some e else φ x) ∧ Ext φ (fun x => if x = rows.length then some e else φ x) ∧ More rows (rows ++ [r]) := by
  have hext : Ext φ (fun x => if x = rows.length then some e else φ x) := fun x ex hx => by
    by_cases h' : x = rows.length
    · subst h'; rw [h.dom _ (Nat.le_refl _)] at hx; cases hx
    · simp only [if_neg h']; exact hx
  refine ⟨⟨fun x hx => ?_, fun i r' hr' => ?_⟩, hext, fun i r' hr' => ?_⟩
  · simp at hx
    simp only [if_neg (show ¬ x = rows.length by omega)]
    exact h.dom x (by omega)
  · by_cases hi : i < rows.length
    · rw [List.getElem?_append_left hi] at hr'
      obtain ⟨ex, h1, h2, h3⟩ := h.row i r' hr'
      exact ⟨ex, hext i ex h1, h2, h3.mono hext rfl⟩
    · rw [List.getElem?_append_right (by omega)] at hr'
      have : i = rows.length := by
        rcases Nat.eq_or_lt_of_le (Nat.le_of_not_lt hi) with h' | h'
        · exact h'.symm
        · rw [List.getElem?_eq_none (by simp; omega)] at hr'; cases hr'
      subst this
      simp at hr'
      subst hr'
      exact ⟨e, by simp, hb, hB.mono hext rfl⟩
  · have := (List.getElem?_eq_some_iff.1 hr').1
    rw [List.getElem?_append_left this]; exact hr'
theorem elems_abs {te : Ty} {e : TypeId} {n : Nat}
    (ih : ∀ (cs : List Value) (x : DataW H × List MemPlace), DataW.trod enc E.P w 0 (fun _ => true) true n e cs = some x → (∀ v ∈ cs, Leads w v) → ∀ (rows : List (List Value)) (φ : NM), Good E w rows φ →
      ∃ rows' φ' ac, More rows rows' ∧ Ext φ φ' ∧ Good E w rows' φ' ∧ RelL E.lab φ' ac cs ∧ Sh rows' te ac) {g : Nat → List Value} :
    ∀ (m : Nat), (∀ i, i < m → ∃ x, DataW.trod enc E.P w 0 (fun _ => true) true n e (g i) = some x) → (∀ i, i < m → ∀ v ∈ g i, Leads w v) → ∀ (rows : List (List Value)) (φ : NM), Good E w rows φ →
      ∃ rows' φ', ∃ f : Nat → List Value, More rows rows' ∧ Ext φ φ' ∧ Good E w rows' φ' ∧ ∀ i, i < m → RelL E.lab φ' (f i) (g i) ∧ Sh rows' te (f i)
  | 0, _, _, rows, φ, hg => ⟨rows, φ, fun _ => [], More.refl _, Ext.refl _, hg, fun i hi => absurd hi (by omega)⟩
  | m + 1, hx, hl, rows, φ, hg => by
    obtain ⟨rows1, φ1, f1, a1, a2, a3, a4⟩ := elems_abs ih m (fun i hi => hx i (by omega)) (fun i hi => hl i (by omega)) rows φ hg
    obtain ⟨x, hx'⟩ := hx m (by omega)
    obtain ⟨rows2, φ2, ac, b1, b2, b3, b4, b5⟩ := ih (g m) x hx' (hl m (by omega)) rows1 φ1 a3
    refine ⟨rows2, φ2, fun i => if i = m then ac else f1 i, a1.trans b1, a2.trans b2, b3, fun i hi => ?_⟩
    by_cases h : i = m
    · subst h; simp only [if_true]; exact ⟨b4, b5⟩
    · simp only [if_neg h]
      obtain ⟨c1, c2⟩ := a4 i (by omega)
      exact ⟨c1.mono b2, c2.mono b1⟩
theorem slice_cells {te : Ty} {t e : TypeId} {cs : List Value} {fuel : Nat} {x : DataW H × List MemPlace} (ht : E.P.underlying t = some (.slice e)) (hsz : te.size = E.P.cellsOf e) (h0 : 0 < te.size)
    (ih : ∀ (fuel : Nat) (cs : List Value) (x : DataW H × List MemPlace), DataW.trod enc E.P w 0 (fun _ => true) true fuel e cs = some x → (∀ v ∈ cs, Leads w v) → ∀ (rows : List (List Value)) (φ : NM), Good E w rows φ →
      ∃ rows' φ' ac, More rows rows' ∧ Ext φ φ' ∧ Good E w rows' φ' ∧ RelL E.lab φ' ac cs ∧ Sh rows' te ac)
    (hx : DataW.trod enc E.P w 0 (fun _ => true) true fuel t cs = some x) (hl : ∀ v ∈ cs, Leads w v) {rows : List (List Value)} {φ : NM} (hg : Good E w rows φ) :
    ∃ rows' φ' ac, More rows rows' ∧ Ext φ φ' ∧ Good E w rows' φ' ∧ RelL E.lab φ' ac cs ∧ Sh rows' (.slice te) ac := by
  rcases Go.Deep.open_slice ht hx with ⟨rfl, _⟩ | ⟨a, len, cap, m, n, D, Pl, rfl, _, hlen, hcap, hm, _, hel⟩
  · exact ⟨rows, φ, [.slice none 0 0], More.refl _, Ext.refl _, hg, RelL.cons .nilSlice RelL.nil, .inl rfl⟩
  · simp only [if_true] at hm
    subst hm
    obtain ⟨b0, c0, el0, fr0, hb0⟩ := hl _ (List.mem_singleton.2 rfl) a len m rfl
    have hlead : ∀ v, Leads w v := fun v _ _ _ _ => ⟨b0, c0, el0, fr0, hb0⟩
    obtain ⟨b, c, el, fr, hb, hbase⟩ : ∃ (b : Nat) (c : Array Value) (el : TypeId) (fr : Nat × Nat), w.heap[b]? = some (.cells c el fr) ∧ (0 < m → a = ⟨b, a.off, none⟩) := by
      rcases Nat.eq_zero_or_pos m with h | h
      · exact ⟨b0, c0, el0, fr0, hb0, fun h' => by omega⟩
      · obtain ⟨cs', h1, h2⟩ := hel 0 h
        obtain ⟨_, h4, h5⟩ := World.cells?_some h1
        obtain ⟨v, hv⟩ : ∃ v, cs'[0]? = some v := ⟨cs'[0]'(by omega), List.getElem?_eq_getElem (by omega)⟩
        have h6 := h5 0 (by omega)
        rw [Nat.zero_mul, hv] at h6
        have e0 : (a.add 0).add 0 = a := by simp [Addr.add]
        rw [e0] at h6
        unfold World.cell? at h6
        split at h6
        · rename_i c el fr hc
          split at h6
          · cases h6
          · rename_i hs
            refine ⟨a.block, c, el, fr, hc, fun _ => ?_⟩
            obtain ⟨b, o, s⟩ := a
            cases s with
            | none => rfl
            | some s => exact absurd rfl hs
        · cases h6
    obtain ⟨gc, hgc⟩ := Go.Deep.choose_lt (α := List Value) (p := fun i cs' => cs'.length = te.size ∧ (∀ j, j < cs'.length → c[a.off + (i * te.size + j)]? = cs'[j]?) ∧ ∃ x, DataW.trod enc E.P w 0 (fun _ => true) true n e cs' = some x) (n := m) fun i hi => by
      obtain ⟨cs', h1, h2⟩ := hel i hi
      obtain ⟨_, h4, h5⟩ := World.cells?_some h1
      refine ⟨cs', by rw [h4, hsz], fun j hj => ?_, _, h2⟩
      have ha := hbase (by omega)
      rw [← h5 j (by omega), Go.Deep.add_add, ← hsz]
      rw [ha]
      rw [cell_add rfl hb]
    obtain ⟨rows1, φ1, f, m1, x1, g1, hf⟩ := elems_abs (ih n) m (fun i hi => (hgc i hi).2.2) (fun i hi v _ => hlead v) rows φ hg
    have hfl : ∀ q, q < len → (f q).length = te.size := fun q hq => by rw [(hf q (by omega)).1.1, (hgc q (by omega)).1]
    have hrl : ((List.range len).flatMap f).length = len * te.size := flat_len hfl
    have hsimple : te.plain = true → ((List.range len).flatMap f).all simple = true := by
      intro hp
      rw [List.all_eq_true]
      intro v hv
      obtain ⟨q, hq, hv⟩ := List.mem_flatMap.1 hv
      exact List.all_eq_true.1 (Sh.simple hp (hf q (by simp at hq; omega)).2) v hv
    have hsize : m = 0 ∨ a.off + m * te.size ≤ c.size := by
      rcases Nat.eq_zero_or_pos m with h | h
      · exact .inl h
      · right
        obtain ⟨h1, h2, h3⟩ := hgc (m - 1) (by omega)
        have h4 := h2 (te.size - 1) (by omega)
        rw [List.getElem?_eq_getElem (by omega)] at h4
        have := (Array.getElem?_eq_some_iff.1 h4).1
        have e1 : (m - 1) * te.size + te.size = m * te.size := by rw [← Nat.succ_mul]; congr 1; omega
        omega
    have hlt : len * te.size ≤ m * te.size := Nat.mul_le_mul_right _ hlen
    have hbl : b < w.heap.size := (Array.getElem?_eq_some_iff.1 hb).1
    obtain ⟨g2, x2, m2⟩ := g1.push (r := (List.range len).flatMap f) (e := ⟨b, if m = 0 then 0 else a.off, c.size⟩) hbl (by
      refine ⟨c, el, fr, hb, rfl, ?_, fun h => (by cases h), ?_⟩
      · by_cases hz : m = 0
        · subst hz; simp [show len = 0 by omega]
        · simp only [if_neg hz]; rw [hrl]; rcases hsize with h | h
          · exact absurd h hz
          · omega
      · intro i v hv
        obtain ⟨q, r, h1, h2, h3, h4⟩ := flat_at hfl hv
        by_cases hz : m = 0
        · omega
        · simp only [if_neg hz]
          obtain ⟨k1, k2, _⟩ := hgc q (by omega)
          obtain ⟨v', hv', hr⟩ := (hf q (by omega)).1.get h4
          refine ⟨v', ?_, hr⟩
          rw [h3, k2 r (by omega), hv'])
    refine ⟨_, _, [.slice (some ⟨rows1.length, 0, some te.size⟩) len len], m1.trans m2, x1.trans x2, g2, RelL.cons ?_ RelL.nil, .inr ⟨rows1.length, len, len, (List.range len).flatMap f, rfl, by omega, by simp, hrl, hsimple, f, rfl, fun i hi => ⟨Sh.mono m2 (hf i (by omega)).2, hfl i hi⟩⟩⟩
    refine RelV.slice (e := ⟨b, if m = 0 then 0 else a.off, c.size⟩) (by simp) hlen hlen ?_
    by_cases hz : m = 0
    · exact .inl hz
    · simp only [if_neg hz]
      rcases hsize with h | h
      · exact absurd h hz
      · exact .inr ⟨hbase (by omega), by simpa using h⟩
theorem abs_cells : ∀ (F : Nat) (ty : Ty) (t : TypeId) (cs : List Value) (fuel : Nat) (x : DataW H × List MemPlace), tyOf E.P F t = some ty → DataW.trod enc E.P w 0 (fun _ => true) true fuel t cs = some x → (∀ v ∈ cs, Leads w v) →
    ∀ (rows : List (List Value)) (φ : NM), Good E w rows φ → ∃ rows' φ' ac, More rows rows' ∧ Ext φ φ' ∧ Good E w rows' φ' ∧ RelL E.lab φ' ac cs ∧ Sh rows' ty ac := by
  intro F
  induction F with
  | zero => intro ty t cs fuel x h; cases h
  | succ F ih =>
    have hf : ∀ (fs : List Field) (off : Nat) (ty : Ty) (cs : List Value) (n : Nat), fieldsTy (tyOf E.P F) E.P off fs = some ty → cs.length = off + ty.size → (∀ v ∈ cs, Leads w v) →
        (∀ (i : Nat) (f : Field), fs[i]? = some f → ∃ y, DataW.trod enc E.P w 0 (fun _ => true) true n f.type ((cs.drop f.offset).take (E.P.cellsOf f.type)) = some y) →
        ∀ (rows : List (List Value)) (φ : NM), Good E w rows φ → ∃ rows' φ' ac, More rows rows' ∧ Ext φ φ' ∧ Good E w rows' φ' ∧ RelL E.lab φ' ac (cs.drop off) ∧ Sh rows' ty ac := by
      intro fs
      induction fs with
      | nil =>
        intro off ty cs n h1 h3 hl h4 rows φ hg
        cases h1
        refine ⟨rows, φ, [], More.refl _, Ext.refl _, hg, ?_, rfl⟩
        rw [List.drop_eq_nil_of_le (by simp [Ty.size] at h3; omega)]
        exact RelL.nil
      | cons f fs ihf =>
        intro off ty cs n h1 h3 hl h4 rows φ hg
        simp only [fieldsTy] at h1
        split at h1
        · rename_i tf htf
          split at h1
          · rename_i hc
            rw [Option.map_eq_some_iff] at h1
            obtain ⟨r, hr, rfl⟩ := h1
            obtain ⟨y, hy⟩ := h4 0 f rfl
            obtain ⟨rows1, φ1, ac1, a1, a2, a3, a4, a5⟩ := ih tf f.type _ n y htf hy (fun v hv => hl v (List.mem_of_mem_drop (List.mem_of_mem_take hv))) rows φ hg
            obtain ⟨rows2, φ2, ac2, b1, b2, b3, b4, b5⟩ := ihf (off + tf.size) r cs n hr (by simp only [Ty.size] at h3; omega) hl (fun i g hg => h4 (i + 1) g (by simpa using hg)) rows1 φ1 a3
            refine ⟨rows2, φ2, ac1 ++ ac2, a1.trans b1, a2.trans b2, b3, ?_, ac1, ac2, rfl, a5.mono b1, b5⟩
            have := (a4.mono b2).append b4
            rwa [hc.1, ← hc.2, ← List.drop_drop, List.take_append_drop] at this
          · cases h1
        · cases h1
    have ha : ∀ (te : Ty) (e : TypeId) (fuel : Nat), tyOf E.P F e = some te → ∀ (n : Nat) (cs : List Value), cs.length = n * te.size → (∀ v ∈ cs, Leads w v) →
        (∀ i, i < n → ∃ y, DataW.trod enc E.P w 0 (fun _ => true) true fuel e ((cs.drop (i * te.size)).take te.size) = some y) →
        ∀ (rows : List (List Value)) (φ : NM), Good E w rows φ → ∃ rows' φ' ac, More rows rows' ∧ Ext φ φ' ∧ Good E w rows' φ' ∧ RelL E.lab φ' ac cs ∧ Sh rows' (.rep n te) ac := by
      intro te e fuel hte n
      induction n with
      | zero =>
        intro cs hl _ _ rows φ hg
        rw [show cs = [] from List.eq_nil_of_length_eq_zero (by simpa using hl)]
        exact ⟨rows, φ, [], More.refl _, Ext.refl _, hg, RelL.nil, rfl⟩
      | succ n ihn =>
        intro cs hl hld h4 rows φ hg
        have hm : (n + 1) * te.size = n * te.size + te.size := Nat.succ_mul n te.size
        obtain ⟨y, hy⟩ := h4 0 (by omega)
        simp only [Nat.zero_mul, List.drop_zero] at hy
        obtain ⟨rows1, φ1, ac1, a1, a2, a3, a4, a5⟩ := ih te e _ fuel y hte hy (fun v hv => hld v (List.mem_of_mem_take hv)) rows φ hg
        obtain ⟨rows2, φ2, ac2, b1, b2, b3, b4, b5⟩ := ihn (cs.drop te.size) (by rw [List.length_drop]; omega) (fun v hv => hld v (List.mem_of_mem_drop hv)) (fun i hi => by
          obtain ⟨z, hz⟩ := h4 (i + 1) (by omega)
          rw [Nat.succ_mul, Nat.add_comm (i * te.size), ← List.drop_drop] at hz
          exact ⟨z, hz⟩) rows1 φ1 a3
        refine ⟨rows2, φ2, ac1 ++ ac2, a1.trans b1, a2.trans b2, b3, ?_, ac1, ac2, rfl, a5.mono b1, b5⟩
        have := (a4.mono b2).append b4
        rwa [List.take_append_drop] at this
    intro ty t cs fuel x h hx hl rows φ hg
    have plain : ∀ {s : Ty}, s.plain = true → Sh rows s cs → ∃ rows' φ' ac, More rows rows' ∧ Ext φ φ' ∧ Good E w rows' φ' ∧ RelL E.lab φ' ac cs ∧ Sh rows' s ac :=
      fun hp hs => ⟨rows, φ, cs, More.refl _, Ext.refl _, hg, relL_simple (Sh.simple hp hs), hs⟩
    simp only [tyOf] at h
    split at h
    · rename_i ht; cases h; obtain ⟨b, rfl, _⟩ := DataW.trod_bool ht hx; exact plain rfl ⟨b, rfl⟩
    · rename_i k ht; cases h; obtain ⟨n, rfl, _, hw⟩ := DataW.trod_int ht hx; exact plain rfl ⟨n, rfl, hw⟩
    · rename_i ht; cases h; obtain ⟨s, rfl, _, hs⟩ := DataW.trod_string ht hx; exact plain rfl ⟨s, rfl, hs⟩
    · rename_i e ht
      split at h
      · rename_i te hte
        split at h
        · rename_i hc
          cases h
          exact slice_cells ht hc.1 hc.2 (fun fuel cs x => ih te e cs fuel x hte) hx hl hg
        · cases h
      · cases h
    · rename_i fs ht
      split at h
      · rename_i ty' hty
        split at h
        · rename_i hsz
          cases h
          obtain ⟨xs, n, _, _, hln, hxl, hget⟩ := DataW.trod_struct ht hx
          have := hf fs.toList 0 ty cs n hty (by rw [hln, hsz, Nat.zero_add]) hl (fun i f hi => by
            have hi' : fs[i]? = some f := by simpa using hi
            have hlt : i < xs.length := by rw [hxl]; exact (Array.getElem?_eq_some_iff.1 hi').1
            exact ⟨xs[i], by rw [hget i f hi', List.getElem?_eq_getElem hlt]⟩) rows φ hg
          simpa using this
        · cases h
      · cases h
    · rename_i n e ht
      split at h
      · rename_i te hte
        split at h
        · rename_i hsz
          cases h
          obtain ⟨xs, m, _, _, hln, hxl, hget⟩ := DataW.trod_array ht hx
          exact ha te e m hte n cs (by rw [hln, hsz.2]) hl (fun i hi => ⟨xs[i], by rw [hsz.1, hget i hi, List.getElem?_eq_getElem]⟩) rows φ hg
        · cases h
      · cases h
    · cases h
def Ty.one : Ty → Bool
  | .unit => false
  | .pair _ _ => false
  | _ => true
def mkV (t : Ty) (ac : List Value) : Value := if t.one then ac.headD undef else .agg ac.toArray
theorem leads_of_cell {P : Program} {r : Reach} {base : Nat} {u : TypeId} {v : Value} (h : Cell.okWide P w r base u v) : Leads w v := by
  intro a n q hv
  subst hv
  have h2 : Cell.ok P w r base u (.slice (some a) n q) := by
    unfold Cell.okWide at h
    split at h <;> simp_all
  unfold Cell.ok at h2
  generalize P.underlying u = o at h2
  cases o with
  | none => exact h2.elim
  | some d =>
    cases d with
    | slice e =>
      obtain ⟨_, _, _, hs, row, cells, hsh, _⟩ := h2
      unfold World.shape? at hsh
      split at hsh
      · rename_i c el fr hc; exact ⟨_, c, el, fr, hc⟩
      · cases hsh
    | _ => exact h2.elim
theorem fieldsTy_one {rec : TypeId → Option Ty} {P : Program} : ∀ {off : Nat} {fs : List Field} {ty : Ty}, fieldsTy rec P off fs = some ty → ty.one = false
  | _, [], _, h => by cases h; rfl
  | off, f :: fs, ty, h => by
    simp only [fieldsTy] at h
    split at h
    · split at h
      · rw [Option.map_eq_some_iff] at h
        obtain ⟨r, _, rfl⟩ := h
        rfl
      · cases h
    · cases h
theorem rep_one {e : Ty} : ∀ {n : Nat}, (Ty.rep n e).one = false
  | 0 => rfl
  | _ + 1 => rfl
theorem one_of_ty {P : Program} {F : Nat} {ty : Ty} {t : TypeId} {v : Value} {r : Reach} {base : Nat} (hty : tyOf P F t = some ty) (hval : Value.okWide P w r base t v) : (ty.one = false ∧ ∃ cs, v = .agg cs ∧ Row.okWide P w r base t cs) ∨ (ty.one = true ∧ v.cells = #[v] ∧ Cell.okWide P w r base t v) := by
  cases F with
  | zero => cases hty
  | succ F =>
    unfold Value.okWide at hval
    simp only [tyOf] at hty
    split at hty
    · rename_i ht; cases hty; rw [ht] at hval; right
      refine ⟨rfl, ?_, hval⟩
      cases v <;> simp [Cell.okWide, Cell.ok, ht, Value.cells] at hval ⊢
    · rename_i ht; cases hty; rw [ht] at hval; right
      refine ⟨rfl, ?_, hval⟩
      cases v <;> simp [Cell.okWide, Cell.ok, ht, Value.cells] at hval ⊢
    · rename_i ht; cases hty; rw [ht] at hval; right
      refine ⟨rfl, ?_, hval⟩
      cases v <;> simp [Cell.okWide, Cell.ok, ht, Value.cells] at hval ⊢
    · rename_i ht
      rw [ht] at hval
      split at hty
      · split at hty
        · cases hty; right
          refine ⟨rfl, ?_, hval⟩
          cases v <;> simp [Cell.okWide, Cell.ok, ht, Value.cells] at hval ⊢
        · cases hty
      · cases hty
    · rename_i ht
      rw [ht] at hval
      obtain ⟨cs, rfl, _, hr⟩ := hval
      split at hty
      · rename_i ty' hty'
        split at hty
        · cases hty; exact .inl ⟨fieldsTy_one hty', cs, rfl, hr⟩
        · cases hty
      · cases hty
    · rename_i ht
      rw [ht] at hval
      obtain ⟨cs, rfl, _, hr⟩ := hval
      split at hty
      · split at hty
        · cases hty; exact .inl ⟨rep_one, cs, rfl, hr⟩
        · cases hty
      · cases hty
    · cases hty
theorem abs_arg {F : Nat} {ty : Ty} {t : TypeId} {v : Value} {d : DataW H} {ps : List MemPlace} {r : Reach} {base : Nat} (hty : tyOf E.P F t = some ty) (hval : Value.okWide E.P w r base t v) (h : DataW.Trod enc E.P w 0 (fun _ => true) true t v d ps)
    {rows : List (List Value)} {φ : NM} (hg : Good E w rows φ) : ∃ rows' φ' ac, More rows rows' ∧ Ext φ φ' ∧ Good E w rows' φ' ∧ RelV E.lab φ' (mkV ty ac) v ∧ Sh rows' ty ac := by
  obtain ⟨fuel, hx⟩ := h
  have hone := one_of_ty hty hval
  have hl : ∀ u ∈ v.cells.toList, Leads w u := by
    rcases hone with ⟨_, cs, rfl, ts, _, _, hr⟩ | ⟨_, hc, hv⟩
    · intro u hu
      obtain ⟨i, hi⟩ := List.mem_iff_getElem?.1 hu
      obtain ⟨u', _, hu'⟩ := hr i u (by simpa [Value.cells] using hi)
      exact leads_of_cell hu'
    · intro u hu
      rw [hc] at hu
      simp at hu
      subst hu
      exact leads_of_cell hv
  obtain ⟨rows', φ', ac, h1, h2, h3, h4, h5⟩ := abs_cells F ty t _ fuel _ hty hx hl rows φ hg
  refine ⟨rows', φ', ac, h1, h2, h3, ?_, h5⟩
  unfold mkV
  rcases hone with ⟨ho, cs, rfl, _⟩ | ⟨ho, hc, _⟩
  · rw [if_neg (by simp [ho])]
    exact RelL.agg (by simpa [Value.cells] using h4)
  · rw [if_pos ho]
    rw [hc] at h4
    cases ac with
    | nil => have := h4.1; simp at this
    | cons u us => exact h4.2 0 u v rfl rfl
theorem Good.start : Good E w [] fun _ => none := ⟨fun _ _ => rfl, fun i r h => by simp at h⟩
theorem Good.rel {rows : List (List Value)} {φ : NM} (h : Good E w rows φ) (lim : Nat) : Rel E lim φ (roHp rows) w := by
  refine ⟨fun x e hx => ?_, fun x e hx => ?_, fun x b e hb hx => ?_, fun x y b c ex ey _ hb _ _ _ hrw => ?_⟩
  · rcases Nat.lt_or_ge x rows.length with h' | h'
    · exact .inl h'
    · rw [h.dom x h'] at hx; cases hx
  · rcases Nat.lt_or_ge x rows.length with h' | h'
    · obtain ⟨e', he', hlt, _⟩ := h.row x rows[x] (List.getElem?_eq_getElem h')
      rw [hx] at he'; cases he'; exact hlt
    · rw [h.dom x h'] at hx; cases hx
  · rw [roHp_get, Option.map_eq_some_iff] at hb
    obtain ⟨r, hr, rfl⟩ := hb
    obtain ⟨e', he', _, hB⟩ := h.row x r hr
    rw [hx] at he'; cases he'; exact hB
  · rw [roHp_get, Option.map_eq_some_iff] at hb
    obtain ⟨r, hr, rfl⟩ := hb
    cases hrw
theorem law_calls {K : Nat → Option Spec} (hK : SpecsOk E K) {rows : List (List Value)} {φ : NM} {f : Nat} {f' : FuncId} {args args' : List Value} (hg : Good E w rows φ) (hlab : E.lab f' = f) (hfn : ∃ nt rs body, E.AP f = some (.fn nt rs body)) (hrel : RelL E.lab φ args args')
    (h : WF E.AP K rows.length f args (roHp rows) fun v _ => v = .bool true) : Calls E.P f' args'.toArray w fun e w' => e = .returned (.bool true) ∧ Go.RowKit.Below w.heap.size w w' := by
  obtain ⟨m, d, v, A', hr, rfl⟩ := h
  have hs := callA_sound hK hr hfn A'.n φ w f' args' (Nat.le_refl _) hlab hrel (hg.rel _)
  refine (hs.mono ?_).calls (fun k => ?_)
  · rintro e w' ⟨v', φ', rfl, hv, hP⟩
    cases hv
    refine ⟨rfl, hP.env.1, hP.env.2.2, hP.env.2.1, hP.size, fun b hb => hP.frame b hb fun x e hx _ => ?_⟩
    rcases Nat.lt_or_ge x rows.length with h' | h'
    · exact .inl h'
    · rw [hg.dom x h'] at hx; cases hx
  · intro d hd; cases hd
end
end Go.Ab
namespace Go.Ab
open Go
theorem RdS.more {rows rows' : List (List Value)} {k n : Nat} {cs : List Value} {sl : Value} (h : RdS (roHp rows) k n cs sl) (hm : More rows rows') : RdS (roHp rows') k n cs sl := by
  obtain ⟨h0, h | ⟨b, c, ro, h1, h2⟩⟩ := h
  · exact ⟨h0, .inl h⟩
  · refine ⟨h0, .inr ⟨b, c, ro, h1, ?_⟩⟩
    rw [roHp_get, Option.map_eq_some_iff] at h2
    obtain ⟨r, hr, e⟩ := h2
    rw [roHp_get, hm b r hr]
    exact congrArg some e
end Go.Ab
namespace Go.Ab
open Go.MapKept
def cutHp (A : Hp) (live : Nat → Bool) : Hp := ⟨A.n, (List.range A.n).reverse.map fun x => if live x then A.get x else none⟩
@[simp] theorem cutHp_n (A : Hp) (live : Nat → Bool) : (cutHp A live).n = A.n := rfl
theorem cutHp_get (A : Hp) (live : Nat → Bool) (x : Nat) : (cutHp A live).get x = if live x = true then A.get x else none := by
  by_cases h : x < A.n
  · have : (List.range A.n).reverse[A.n - 1 - x]? = some x := by
      rw [List.getElem?_reverse (by simp; omega)]
      simp only [List.length_range]
      rw [List.getElem?_range (by omega)]
      congr 1; omega
    show (if x < A.n then ((cutHp A live).l[A.n - 1 - x]?).join else none) = _
    unfold cutHp
    simp only [h, if_true, List.getElem?_map, this, Option.map_some, Option.join_some]
  · have e1 : (cutHp A live).get x = none := by unfold Hp.get cutHp; simp [h]
    have e2 : A.get x = none := by unfold Hp.get; simp [h]
    rw [e1, e2]; split <;> rfl
theorem cutHp_live {A : Hp} {live : Nat → Bool} {x : Nat} (h : live x = true) : (cutHp A live).get x = A.get x := by rw [cutHp_get, if_pos h]
def inV1 (p : Nat → Bool) : Value → Bool
  | .pointer (some ⟨x, _, none⟩) => p x
  | .slice (some ⟨x, _, some _⟩) _ _ => p x
  | .map (some x) => p x
  | v => simple v
def inV (p : Nat → Bool) : Value → Bool
  | .agg cs => cs.toList.all (inV1 p)
  | .tuple cs => cs.toList.all (inV1 p)
  | v => inV1 p v
def inB (p : Nat → Bool) : ABlk → Bool
  | .cells cs _ => cs.all (inV1 p)
  | .map l lk => l.all (fun q => inV p q.2) && lk.isNone
  | _ => false
section
variable {lab : Nat → Nat} {φ : NM} {p : Nat → Bool}
def only (p : Nat → Bool) (φ : NM) : NM := fun x => if p x = true then φ x else none
theorem relV_in1 {v v' : Value} (hv : inV1 p v = true) (h : RelV lab φ v v') : RelV lab (only p φ) v v' := by
  unfold inV1 at hv
  split at hv
  · cases h with
    | ptr h => exact .ptr (by simp only [only, hv, if_true]; exact h)
  · cases h with
    | slice h h1 h2 h3 => exact .slice (by simp only [only, hv, if_true]; exact h) h1 h2 h3
  · cases h with
    | map h => exact .map (by simp only [only, hv, if_true]; exact h)
  · rw [relV_simple_inv hv h]; exact relV_simple hv
theorem relL_in1 {l l' : List Value} (hv : l.all (inV1 p) = true) (h : RelL lab φ l l') : RelL lab (only p φ) l l' :=
  ⟨h.1, fun i v v' a b => relV_in1 (List.all_eq_true.1 hv v (List.mem_of_getElem? a)) (h.2 i v v' a b)⟩
theorem relV_in {v v' : Value} (hv : inV p v = true) (h : RelV lab φ v v') : RelV lab (only p φ) v v' := by
  unfold inV at hv
  split at hv
  · obtain ⟨ys, rfl, hl⟩ := h.agg_inv
    exact RelL.agg (relL_in1 hv hl)
  · obtain ⟨ys, rfl, hl⟩ := h.tuple_inv
    exact RelL.tuple (relL_in1 hv hl)
  · exact relV_in1 hv h
theorem relL_in {l l' : List Value} (hv : l.all (inV p) = true) (h : RelL lab φ l l') : RelL lab (only p φ) l l' :=
  ⟨h.1, fun i v v' a b => relV_in (List.all_eq_true.1 hv v (List.mem_of_getElem? a)) (h.2 i v v' a b)⟩
theorem relM_in {l : List (Value × Value)} {es : List MapEntry} (h : RelM lab φ l es) (hv : ∀ q ∈ l, inV p q.2 = true) : RelM lab (only p φ) l es := by
  induction h with
  | nil => exact .nil
  | cons h1 h0 h2 _ ih => exact .cons h1 h0 (relV_in (hv _ (.head _)) h2) (ih fun q hq => hv q (.tail _ hq))
end
section
variable {E : Env} {K : Nat → Option Spec} {tf : Nat → Bool}
theorem relB_in {φ : NM} {p : Nat → Bool} {w : World} {b : ABlk} {e : Ent} (hb : inB p b = true) (h : RelB E φ w b e) : RelB E (only p φ) w b e := by
  cases b with
  | cells cs ro =>
    obtain ⟨c, el, fr, h1, h2, h4, h5, h6⟩ := h
    refine ⟨c, el, fr, h1, h2, h4, h5, fun i v hv => ?_⟩
    obtain ⟨v', hv', hr⟩ := h6 i v hv
    exact ⟨v', hv', relV_in1 (List.all_eq_true.1 hb v (List.mem_of_getElem? hv)) hr⟩
  | map l lk =>
    obtain ⟨es, cl, l', h1, h2, h3, h4, h5, h6⟩ := h
    simp only [inB, Bool.and_eq_true] at hb
    exact ⟨es, cl, l', h1, h2, h3, h4, relM_in h5 fun q hq => List.all_eq_true.1 hb.1 q (h3.mem_iff.1 hq), h6⟩
  | loop r => cases hb
  | marks => cases hb
  | iter gh => cases hb
theorem good_of_WN (hK : SpecsOk E K) (htf : TextsOk E tf) {f : Nat} {args : List Value} {A : Hp} {v1 : Value} {out : Option (List Value)} (p live : Nat → Bool) (hp : ∀ x, p x = true → x < A.n) (hargs : args.all (inV p) = true)
    (hlive : ∀ x, live x = true → ∃ b, A.get x = some b ∧ p x = true ∧ inB p b = true)
    (h : WN E.AP K tf (.fn A.n f args (cutHp A live) fun v A1 => ∃ x0, v = ren (fun x => if x < A.n then x else x0) v1 ∧ outOk A.n v1 A1 x0 out)) (g : Nat) :
    FnSound E g f args A v1 (outHp A out) ∧ HK g A (outHp A out) := by
  refine ⟨?_, by cases out <;> first | exact HK.refl _ _ | exact HK.push _ _ _⟩
  intro lim φ w f' args' hlim hlab hrel hR
  have hR0 : RelI E (only p φ) (cutHp A live) w := by
    have hd : ∀ x e, only p φ x = some e → x < (cutHp A live).n := fun x e hx => by
      simp only [only] at hx
      split at hx
      · exact hp x (by assumption)
      · cases hx
    have hsub : ∀ x e, only p φ x = some e → φ x = some e := fun x e hx => by
      simp only [only] at hx
      split at hx
      · exact hx
      · cases hx
    have hget : ∀ x b, (cutHp A live).get x = some b → live x = true ∧ A.get x = some b := fun x b hb => by
      rw [cutHp_get] at hb
      split at hb
      · exact ⟨by assumption, hb⟩
      · cases hb
    refine ⟨hd, fun x e hx => .inl (hd x e hx), fun x e hx => hR.wf x e (hsub x e hx), fun x b e hb hx => ?_, fun x y b c ex ey hxy hb hc hx hy hrw => hR.sep x y b c ex ey hxy (hget x b hb).2 (hget y c hc).2 (hsub _ _ hx) (hsub _ _ hy) hrw⟩
    obtain ⟨hl, hA⟩ := hget x b hb
    obtain ⟨b', h1, h2, h3⟩ := hlive x hl
    rw [hA] at h1; cases h1
    exact relB_in h3 (hR.blk x b e hA (hsub x e hx))
  have hm := WN_sound hK htf h
  refine CallsIn.mono (hm (only p φ) w f' args' hlab (relL_in hargs hrel) hR0) ?_
  rintro en w' ⟨v, A1, v', φ1, ⟨x0, hv, ho⟩, hHK, rfl, hvr, hP⟩
  have hs : Still w w' := ⟨hP.size, fun b hb => hP.frame b hb fun x e hx _ => .inl (hR0.1 x e hx), hP.env⟩
  have hold : ∀ x e, φ1 x = some e → x < A.n → φ x = some e := fun x e hx hlt => by
    rcases hP.dom x e hx with h1 | h1
    · simp only [only] at h1
      split at h1
      · exact h1
      · cases h1
    · have : A.n ≤ x := h1.1
      omega
  subst hv
  cases out with
  | none =>
    have hv2 : RelV E.lab φ v1 v' := by
      have h2 := relV_ren (φ := φ1) (φ0 := fun x => if x < A.n then φ1 x else none) (ρ := fun x => if x < A.n then x else x0) (k := A.n) (fun x hx => by simp [hx]) ho hvr
      exact h2.mono fun x e hx => by
        split at hx
        · exact hold x e hx (by assumption)
        · cases hx
    exact ⟨v', φ, rfl, hv2, post_still hR hs⟩
  | some c =>
    obtain ⟨ho1, ho2, ho3, ho4, ho5⟩ := ho
    obtain ⟨e, he⟩ := hasV_some ho3 hvr
    simp only [Nat.lt_irrefl, if_false] at he
    have hlt : A.n < lim := hlim
    have hfr := hR.fresh hlt
    have hn0 : only p φ x0 = none := by
      cases hx : only p φ x0 with
      | none => rfl
      | some e => have : x0 < A.n := hR0.1 _ _ hx; omega
    have hblk : w.heap.size ≤ e.blk := by
      rcases hP.fresh x0 e he hn0 with h1 | ⟨y, ey, hy, hlo, _, _, _⟩
      · exact h1
      · have : y < A.n := hR0.1 _ _ hy
        have hlo' : A.n ≤ y := hlo
        omega
    refine ⟨v', ins φ A.n e, rfl, ?_, post_adopt hR hs hlt hblk (hP.rel.wf x0 e he) (relB_simple ho2 (hP.rel.blk x0 _ e ho4 he))⟩
    have h2 := relV_ren (φ := φ1) (φ0 := fun x => if x < A.n then φ1 x else if x = A.n then φ1 x0 else none) (ρ := fun x => if x < A.n then x else x0) (k := A.n + 1) (fun x hx => by
      rcases Nat.lt_or_ge x A.n with h | h
      · simp [h]
      · have : x = A.n := by omega
        subst this; simp) ho1 hvr
    exact h2.mono fun x ex hx => by
      split at hx
      · rw [ins_other (by omega)]; exact hold x ex hx (by assumption)
      · split at hx
        · rename_i hxn
          subst hxn
          rw [ins_same, ← hx, he]
        · cases hx
end
end Go.Ab
namespace Go.Ab.Dike
open Go Go.Ab
def tf (n : Nat) : Bool := Nat.beq n 149 || Nat.beq n 191 || Nat.beq n 204 || Nat.beq n 207 || Nat.beq n 206
def round207 : ACode := (.block 1
 (.ops [
oL 8 2,
oM 9 5,
⟨some 10, none, [], .slit 1 1 [.string ⟨⟨[]⟩⟩] [(0, .t 9)]⟩,
oP 11 (.append (.t 8) (.t 10) 1 16),
oT 2 11 1]))
def U206 : MapCode := ⟨0, 1, 5, 6, 7, 8, [oX 9 8 0, oM 3 9],
  .seq (.ops [oM 10 0, oM 11 3, oP 12 (.call (.t 10) [.t 11] false), oP 13 (.not (.t 12))]) (.cond (.t 13) .ret .skip)⟩
theorem AP206 : AP 206 = some (.fn 14 [] (.seq (.ops ([oL 4 1] ++ [⟨some U206.tI, none, [], .rangeI (.t 4)⟩])) (.block U206.bL (.loop U206.round)))) := rfl
section
variable {K : Nat → Option Spec} (hK : KOk K) {g : Nat} {rd : Option Nat} {T : List Value} {D : List Nat} {A : Hp} {Q : Ex → St → Prop} {V : Value → Hp → Prop}
abbrev asg207 : ACode := .ops [oM 5 7]
theorem y207 {X L N : Nat} {T0 : List Value} {sv : Value} {done : List ByteArray} {d : ByteArray} (hX : A.get X = some (.cells [sv] false)) (hL : A.get L = some (recL T0 [7] asg207 round207)) (hXL : X ≠ L) (hacc : AccS N A 1 (strs done) sv)
    (h2 : tget T0 2 = .pointer (some ⟨X, 0, none⟩)) (hg : g ≤ X) (hgL : g ≤ L) (hgN : g ≤ N) (hN : N ≤ A.n) (hXN : X < N) (hLN : L < N) (hlen : done.length < 1000)
    (hQ : ∀ sv' A', A'.get X = some (.cells [sv'] false) → A'.get L = some (recL T0 [7] asg207 round207) → AccS N A' 1 (strs (done ++ [d])) sv' → A.n ≤ A'.n → (∀ x, x < N → x ≠ X → x ≠ L → A'.get x = A.get x) → V (.bool true) A') :
    WV AP K g (.func (.yield L) #[] #[]) [.string d] A V := by
  refine WV_yield hL hgL ?_
  have hLn := Hp.lt_of_get hL
  have hXn := Hp.lt_of_get hX
  obtain ⟨B, hB⟩ : ∃ B, B = A.set L (some (.loop { state := .busy, pending := none, tmps := T0, params := [7], assign := asg207, body := round207 })) := ⟨_, rfl⟩
  rw [← hB]
  have hBn : B.n = A.n := by rw [hB]; rfl
  have hBX : B.get X = some (.cells [sv] false) := by rw [hB, get_set_ne hLn hXL]; exact hX
  have hBL : B.get L = some (.loop { state := .busy, pending := none, tmps := T0, params := [7], assign := asg207, body := round207 }) := by rw [hB, get_set_same hL]
  have hBo : ∀ x, x ≠ L → B.get x = A.get x := fun x hx => by rw [hB, get_set_ne hLn hx]
  have haccB : AccS N B 1 (strs done) sv := by
    rcases hacc with h | ⟨b, k, h1, h3, h4, h5, h6⟩
    · exact .inl h
    · exact .inr ⟨b, k, h1, by rw [hBo b (by omega)]; exact h3, h4, h5, h6⟩
  obtain ⟨sv', A', e, hacc', hold, hn⟩ := haccB.add (g := g) (bytes := 16) (new := [.string d]) (ro := false) (n := done.length) hgN (by omega) rfl (by decide) rfl (by simp) (by unfold room; omega)
  have hX' : A'.get X = some (.cells [sv] false) := (hold X hXN).trans hBX
  have hL' := (hold L hLN).trans hBL
  have hXn' := Hp.lt_of_get hX'
  obtain ⟨p, n1, c1, rfl⟩ := hacc'.isSlice
  simp (disch := as_aux_lemma => first | omega | simp only [hDs] <;> omega | simp [isCell]) [hRs, takeMarks, resA, resAll, resOne, Value.cells, round207, h2, hBX, slitA, fillA, setRange, e, hX', storeB_cells, RoundQ]
  have q1 : ∀ x, x ≠ X → (A'.set X (some (.cells [.slice p n1 c1] false))).get x = A'.get x := fun x hx => get_set_ne hXn' hx
  have q2 : (A'.set X (some (.cells [.slice p n1 c1] false))).get L = _ := (q1 L (Ne.symm hXL)).trans hL'
  refine ⟨q2, ?_⟩
  have q3 : ∀ x b, x ≠ L → ((A'.set X (some (.cells [.slice p n1 c1] false))).set L b).get x = (A'.set X (some (.cells [.slice p n1 c1] false))).get x := fun x b hx => get_set_ne (Hp.lt_of_get q2) hx
  refine hQ (.slice p n1 c1) _ ?_ ?_ ?_ ?_ ?_
  · rw [q3 X _ hXL, get_set_same hX']
  · rw [get_set_same q2]; rfl
  · rw [strs_append]
    rcases hacc' with h | ⟨b, k, k1, k3, k4, k5, k6⟩
    · exact .inl h
    · exact .inr ⟨b, k, k1, by rw [q3 b _ (by omega), q1 b (by omega)]; exact k3, k4, k5, k6⟩
  · simp only [Hp.n_set]; omega
  · intro x hx hxX hxL
    rw [q3 x _ hxL, q1 x hxX, hold x hx, hBo x hxL]
theorem iter206 {M : MapRun} {X L N : Nat} {T0 : List Value} (h2 : tget T0 2 = .pointer (some ⟨X, 0, none⟩)) (hXL : X ≠ L) (hgX : g ≤ X) (hgL : g ≤ L) (hgN : g ≤ N) (hXN : X < N) (hLN : L < N) (hyN : M.y < N) (hmN : M.m < N) (hyX : M.y ≠ X) (hyL : M.y ≠ L) (hmX : M.m ≠ X) (hmL : M.m ≠ L) (hym : M.y ≠ M.m) :
    ∀ (n : Nat) (left : List (Value × Value)) (done : List ByteArray) (T : List Value) (A : Hp) (sv : Value) (gi : Option Nat × Nat × Array Nat × Nat), left.length = n → (∀ p ∈ left, ∃ s, p.1 = .string s) → done.length + n < 1000 → tget T 5 = ptrY M.y → tget T 0 = .func (.yield L) #[] #[] → M.held A → A.get M.y = some (.iter gi) →
      A.get X = some (.cells [sv] false) → A.get L = some (recL T0 [7] asg207 round207) → AccS N A 1 (strs done) sv → N ≤ A.n →
      (∀ T' A' sv' ks, (ks.map Value.string).Perm (left.map Prod.fst) → A'.get X = some (.cells [sv'] false) → A'.get L = some (recL T0 [7] asg207 round207) → AccS N A' 1 (strs (done ++ ks)) sv' → A.n ≤ A'.n → A'.get M.m = some (.map M.l M.lk) →
        (∀ x, x < N → x ≠ X → x ≠ L → x ≠ M.y → x ≠ M.m → A'.get x = A.get x) → Q .normal ⟨T', D, A'⟩) →
      WN AP K tf (.iter true g rd U206 M left ⟨T, D, A⟩ Q) := by
  intro n
  induction n with
  | zero =>
    intro left done T A sv gi hl hs hlen hT5 hT0 hh hy hX hL hacc hN hQ
    obtain rfl := List.eq_nil_of_length_eq_zero hl
    have hf : ∀ x, (M.free A).get x = if x = M.m then some (.map M.l M.lk) else A.get x := fun x => Hp.get_set hh _ x
    refine .over hT5 ⟨hh, hQ _ (M.free A) sv [] (.refl _) ?_ ?_ ?_ (Nat.le_refl _) ?_ ?_⟩
    · rw [hf, if_neg (Ne.symm hmX)]; exact hX
    · rw [hf, if_neg (Ne.symm hmL)]; exact hL
    · rw [List.append_nil]
      rcases hacc with h | ⟨b, k, k1, k3, k4, k5, k6⟩
      · exact .inl h
      · exact .inr ⟨b, k, k1, by rw [hf, if_neg (by omega)]; exact k3, k4, k5, k6⟩
    · rw [hf, if_pos rfl]
    · intro x _ _ _ _ hxm
      rw [hf, if_neg hxm]
  | succ n ih =>
    intro left done T A sv gi hl hs hlen hT5 hT0 hh hy hX hL hacc hN hQ
    have hyn := Hp.lt_of_get hy
    refine .step (R := fun k v left' gi' T2 A2 => tget T2 0 = .func (.yield L) #[] #[] ∧ tget T2 3 = k ∧ tget T2 5 = ptrY M.y ∧ A2 = A.set M.y (some (.iter gi')))
      (Q1 := fun k v left' gi' ex st' => ∃ d sv', k = .string d ∧ ex = .normal ∧ st'.D = D ∧ tget st'.T 5 = ptrY M.y ∧ tget st'.T 0 = .func (.yield L) #[] #[] ∧ st'.A.get X = some (.cells [sv'] false) ∧ st'.A.get L = some (recL T0 [7] asg207 round207) ∧
        AccS N st'.A 1 (strs (done ++ [d])) sv' ∧ A.n ≤ st'.A.n ∧ M.held st'.A ∧ st'.A.get M.y = some (.iter gi') ∧ (∀ x, x < N → x ≠ X → x ≠ L → x ≠ M.y → x ≠ M.m → st'.A.get x = A.get x))
      (by rintro rfl; simp at hl) ⟨by decide, by decide⟩ hT5 ?_ ?_ ?_ ?_ ?_ ?_
    · intro k v left' gi' hp
      simp (disch := as_aux_lemma => first | omega | simp only [hDs] <;> omega | simp [isCell]) [hRs, takeMarks, resA, resAll, resOne, Value.cells, U206, stepT, hT5, hT0]
    · rintro k v left' gi' T2 A2 hp ⟨e0, e3, e5, rfl⟩
      obtain ⟨d, hd⟩ := hs (k, v) (hp.mem_iff.2 (by simp))
      simp only at hd
      subst hd
      have hset : ∀ x, (A.set M.y (some (.iter gi'))).get x = if x = M.y then some (.iter gi') else A.get x := fun x => Hp.get_set hy _ x
      refine .det ?_
      simp (disch := as_aux_lemma => first | omega | simp only [hDs] <;> omega | simp [isCell]) [hRs, takeMarks, resA, resAll, resOne, Value.cells, U206, e0, e3]
      refine y207 (X := X) (L := L) (N := N) (sv := sv) (done := done) (T0 := T0) (by rw [hset, if_neg (Ne.symm hyX)]; exact hX) (by rw [hset, if_neg (Ne.symm hyL)]; exact hL) hXL ?_ h2 hgX hgL hgN hN hXN hLN (by omega) fun sv' A' k1 k2 k3 k4 k5 => ?_
      · rcases hacc with h | ⟨b, k, k1, k3, k4, k5, k6⟩
        · exact .inl h
        · exact .inr ⟨b, k, k1, by rw [hset, if_neg (by omega)]; exact k3, k4, k5, k6⟩
      simp (disch := as_aux_lemma => first | omega | simp only [hDs] <;> omega | simp [isCell]) [hRs, takeMarks, resA, resAll, resOne, Value.cells, e5, e0]
      refine ⟨sv', k1, k2, k3, k4, ?_, ?_, fun x hx h1 h2 h3 h4 => ?_⟩
      · show A'.get M.m = _
        rw [k5 _ hmN hmX hmL, hset, if_neg (Ne.symm hym)]; exact hh
      · rw [k5 _ hyN hyX hyL, hset, if_pos rfl]
      · rw [k5 x hx h1 h2, hset, if_neg h3]
    · rintro k v left' gi' st' hp (⟨d, sv', _, _, _, _, _, _, _, _, _, k1, k2, _⟩ | ⟨d, sv', _, h, _⟩)
      · exact ⟨k1, k2⟩
      · cases h
    · rintro k v left' gi' ⟨T2, D2, A2⟩ hp (⟨d, sv', rfl, _, rfl, k5, k0, kX, kL, kacc, kn, kh, ky, ko⟩ | ⟨d, sv', _, h, _⟩)
      · have hl' : left'.length = n := by have := hp.length_eq; simp at this; omega
        refine ih left' (done ++ [d]) T2 A2 sv' gi' hl' (fun p hpm => hs p (hp.mem_iff.2 (List.mem_cons_of_mem _ hpm))) (by simp; omega) k5 k0 kh ky kX kL kacc (by have : A.n ≤ A2.n := kn; omega) fun T' A' sv2 ks h1 h2' h3 h4 h5 h6 h7 => ?_
        refine hQ T' A' sv2 (d :: ks) ?_ h2' h3 (by simpa using h4) (by have : A.n ≤ A2.n := kn; omega) h6 fun x hx a b c d => by rw [h7 x hx a b c d, ko x hx a b c d]
        exact (h1.cons _).trans ((hp.map Prod.fst).symm)
      · cases h
    · rintro k v left' gi' st' hp ⟨d, sv', _, h, _⟩; cases h
    · rintro k v left' gi' i st' hp hi ⟨d, sv', _, h, _⟩; cases h
end
end Go.Ab.Dike
namespace Go.Ab
def NQ (AP : Nat → Option AFunc) (K : Nat → Option Spec) (tf : Nat → Bool) (tx : Bool) (g : Nat) (rd : Option Nat) (b : ACode) (Q : Ex → St → Prop) : Ex → St → Prop
  | .normal, st => WN AP K tf (.code tx g rd b st Q)
  | .ret, st => Q .ret st
  | .exit i, st => Q (.exit i) st
section
variable {AP : Nat → Option AFunc} {K : Nat → Option Spec} {tf : Nat → Bool} {tx : Bool} {g : Nat} {rd : Option Nat} {a b c : ACode} {st : St} {T : List Value} {D : List Nat} {A : Hp} {Q : Ex → St → Prop} {V : Value → Hp → Prop}
@[simp] theorem NQ_normal : NQ AP K tf tx g rd b Q .normal st ↔ WN AP K tf (.code tx g rd b st Q) := Iff.rfl
@[simp] theorem NQ_ret : NQ AP K tf tx g rd b Q .ret st ↔ Q .ret st := Iff.rfl
@[simp] theorem NQ_exit {i : Nat} : NQ AP K tf tx g rd b Q (.exit i) st ↔ Q (.exit i) st := Iff.rfl
theorem NQ_other {ex : Ex} (h : ex ≠ .normal) (hq : NQ AP K tf tx g rd b Q ex st) : Q ex st := by
  cases ex with
  | normal => exact absurd rfl h
  | ret => exact hq
  | exit i => exact hq
theorem WN_seqn (h : WN AP K tf (.code tx g rd a st (NQ AP K tf tx g rd b Q))) : WN AP K tf (.code tx g rd (.seq a b) st Q) := .seq h (fun _ h => h) fun _ _ h hq => NQ_other h hq
theorem WN_seqd (h : W AP K g rd a st (NQ AP K tf tx g rd b Q)) : WN AP K tf (.code tx g rd (.seq a b) st Q) := WN_seqn (.det h)
theorem WN_ret (h : Q .ret st) : WN AP K tf (.code tx g rd .ret st Q) := .det (by simpa using h)
theorem WN_body {f nt : Nat} {rs : List ARes} {args : List Value} (h : K f = none) (h' : AP f = some (.fn nt rs c)) (hw : WN AP K tf (.code (tf f) g none c ⟨args, [], A⟩ (FinQ rs V))) : WN AP K tf (.fn g f args A V) := .body h h' hw
end
end Go.Ab
namespace Go.Ab.Dike
open Go Go.Ab
section
variable {K : Nat → Option Spec} (hK : KOk K) {g : Nat} {A : Hp} {V : Value → Hp → Prop}
def keysOk (l : List (Value × Value)) : Prop := ∀ p ∈ l, ∃ s, p.1 = .string s
include hK
theorem n206 {X L N bx m : Nat} {ro : Bool} {l : List (Value × Value)} {lk : Option (Array MapEntry × Nat)} {T0 : List Value} {sv : Value} (hbx : A.get bx = some (.cells [.map (some m)] ro)) (hm : A.get m = some (.map l lk)) (hl : keysOk l) (hlen : l.length < 1000)
    (h2 : tget T0 2 = .pointer (some ⟨X, 0, none⟩)) (hX : A.get X = some (.cells [sv] false)) (hL : A.get L = some (recL T0 [7] asg207 round207)) (hsv : sv = .slice none 0 0) (hgX : g ≤ X) (hgL : g ≤ L) (hN : N = A.n + 1)
    (hV : ∀ A' sv' ks, (ks.map Value.string).Perm (l.map Prod.fst) → A'.get X = some (.cells [sv'] false) → A'.get L = some (recL T0 [7] asg207 round207) → AccS N A' 1 (strs ks) sv' → A.n ≤ A'.n → (∀ x, x < A.n → x ≠ X → x ≠ L → A'.get x = A.get x) → V (.tuple ⟨[]⟩) A') :
    WN AP K tf (.fn g 206 [.func (.yield L) #[] #[], .pointer (some ⟨bx, 0, none⟩)] A V) := by
  have hmn := Hp.lt_of_get hm
  have hXn := Hp.lt_of_get hX
  have hLn := Hp.lt_of_get hL
  have hmX : m ≠ X := fun h => by rw [h, hX] at hm; cases hm
  have hmL : m ≠ L := fun h => by rw [h, hL] at hm; cases hm
  have hXL : X ≠ L := fun h => by rw [h, hL] at hX; cases hX
  refine WN_body (hK.free 206 rfl) AP206 (.map (R := fun T1 A1 => T1 = tset [.func (.yield L) #[] #[], .pointer (some ⟨bx, 0, none⟩)] 4 (.map (some m)) ∧ A1 = A) (m := fun _ _ => m) (l := fun _ _ => l) (lk := fun _ _ => lk) ?_ ?_ ?_)
  · simp (disch := as_aux_lemma => first | omega | simp only [hDs] <;> omega | simp [isCell]) [hRs, takeMarks, resA, resAll, resOne, Value.cells, hbx]
  · rintro T1 A1 ⟨rfl, rfl⟩
    exact ⟨by simp, hm⟩
  · rintro T1 A1 gh gi ⟨rfl, rfl⟩ hlk
    have hget : (A1.push (.iter gi)).get m = some (.map l lk) := by rw [get_push_old hmn]; exact hm
    have hset : ∀ x, ((A1.push (.iter gi)).set m (some (.map l (some gh)))).get x = if x = m then some (.map l (some gh)) else (A1.push (.iter gi)).get x := fun x => Hp.get_set hget _ x
    refine iter206 (X := X) (L := L) (N := N) (T0 := T0) h2 hXL hgX hgL (by omega) (by omega) (by omega) (by show A1.n < N; omega) (by show m < N; omega) (by show A1.n ≠ X; omega) (by show A1.n ≠ L; omega) hmX hmL (by show A1.n ≠ m; omega) l.length l [] _ _ sv gi rfl hl (by simpa using hlen) ?_ ?_ ?_ ?_ ?_ ?_ ?_ ?_ ?_
    · simp [U206]
    · simp [U206]
    · show _ = _
      rw [hset, if_pos rfl]
    · show ((A1.push (.iter gi)).set m _).get A1.n = _
      rw [hset, if_neg (by omega), get_push_new]
    · rw [hset, if_neg (Ne.symm hmX), get_push_old hXn]; exact hX
    · rw [hset, if_neg (Ne.symm hmL), get_push_old hLn]; exact hL
    · rw [hsv]; exact AccS.nil
    · simp; omega
    · intro T' A' sv' ks h1 h2 h3 h4 h5 h6 h7
      have h6' : A'.get m = some (.map l lk) := h6
      have h7' : ∀ x, x < N → x ≠ X → x ≠ L → x ≠ A1.n → x ≠ m → A'.get x = ((A1.push (.iter gi)).set m (some (.map l (some gh)))).get x := h7
      simp (disch := as_aux_lemma => first | omega | simp only [hDs] <;> omega | simp [isCell]) [hRs, takeMarks, resA, resAll, resOne, Value.cells]
      refine hV A' sv' ks h1 h2 h3 (by simpa using h4) (by simp at h5; omega) fun x hx a b => ?_
      by_cases hxm : x = m
      · subst hxm; rw [h6', hm]
      · rw [h7' x (by omega) a b (by omega) hxm, hset, if_neg hxm, get_push_old hx]
theorem n207 {bx m : Nat} {ro : Bool} {l : List (Value × Value)} {lk : Option (Array MapEntry × Nat)} (hbx : A.get bx = some (.cells [.map (some m)] ro)) (hm : A.get m = some (.map l lk)) (hl : keysOk l) (hlen : l.length < 1000) (hg : g ≤ A.n)
    (hV : ∀ A' sv ks, (ks.map Value.string).Perm (l.map Prod.fst) → AccS A.n A' 1 (strs ks) sv → A.n ≤ A'.n → (∀ x, x < A.n → A'.get x = A.get x) → V sv A') :
    WN AP K tf (.fn g 207 [.slice none 0 0, .func (.func 206) #[] #[.pointer (some ⟨bx, 0, none⟩)]] A V) := by
  refine WN_body (hK.free 207 rfl) (show AP 207 = some F207 from rfl) ?_
  refine WN_seqd ?_
  simp (disch := as_aux_lemma => first | omega | simp only [hDs] <;> omega | simp [isCell]) [hRs, takeMarks, resA, resAll, resOne, Value.cells]
  refine WN_seqn (WN_seqd ?_)
  simp (disch := as_aux_lemma => first | omega | simp only [hDs] <;> omega | simp [isCell]) [hRs, takeMarks, resA, resAll, resOne, Value.cells]
  refine .block (.range (first := []) (captured := [.pointer (some ⟨bx, 0, none⟩)]) (h := 206) (by simp) ?_)
  obtain ⟨T, hT⟩ : ∃ T, T = tset (tset (tset [Value.slice none 0 0, .func (.func 206) #[] #[.pointer (some ⟨bx, 0, none⟩)]] 2 (.pointer (some ⟨A.n, 0, none⟩))) 4 (.slice none 0 0)) 6 (.func (.func 206) #[] #[.pointer (some ⟨bx, 0, none⟩)]) := ⟨_, rfl⟩
  rw [← hT]
  have hbn := Hp.lt_of_get hbx
  have hmn := Hp.lt_of_get hm
  have hT2 : tget T 2 = .pointer (some ⟨A.n, 0, none⟩) := by rw [hT]; simp
  refine n206 hK (X := A.n) (L := A.n + 2) (N := A.n + 4) (bx := bx) (m := m) (ro := ro) (l := l) (lk := lk) (T0 := T) (sv := .slice none 0 0) ?_ ?_ hl hlen hT2 ?_ ?_ rfl (by omega) (by omega) (by simp) ?_
  · rw [get_push_old (by simp; omega), get_push_old (by simp; omega), get_push_old hbn]; exact hbx
  · rw [get_push_old (by simp; omega), get_push_old (by simp; omega), get_push_old hmn]; exact hm
  · rw [get_push_old (by simp; omega), get_push_old (by simp), get_push_new]
  · rw [get_push_eq (by simp)]
    rfl
  intro A' sv' ks h1 h2 h3 h4 h5 h6
  simp at h5 h6
  have hmk : A'.get (A.n + 1) = some .marks := by
    rw [h6 (A.n + 1) (by omega) (by omega) (by omega), get_push_old (by simp), get_push_eq (by simp)]
  have hLn := Hp.lt_of_get h3
  have hset : ∀ x b, (A'.set (A.n + 2) b).get x = if x = A.n + 2 then b else A'.get x := fun x b => Hp.get_set h3 b x
  obtain ⟨p, n1, c1, rfl⟩ := h4.isSlice
  have hmk2 : ∀ b, (A'.set (A.n + 2) b).get (A.n + 1) = some .marks := fun b => by rw [hset, if_neg (by omega)]; exact hmk
  have hX2 : ∀ b, (A'.set (A.n + 2) b).get A.n = some (.cells [.slice p n1 c1] false) := fun b => by rw [hset, if_neg (by omega)]; exact h2
  show EndQ _ _ _ _ _ _
  unfold EndQ
  rw [show (A.push (.cells [.slice none 0 0] false)).n + 1 = A.n + 2 by simp, h3]
  simp only [recL]
  simp (disch := as_aux_lemma => first | omega | simp only [hDs] <;> omega | simp [isCell]) [hRs, takeMarks, resA, resAll, resOne, Value.cells]
  refine .det ?_
  simp (disch := as_aux_lemma => first | omega | simp only [hDs] <;> omega | simp [isCell]) [hRs, takeMarks, resA, resAll, resOne, Value.cells, hT2, hX2, hmk2]
  have hs2 : ∀ x b b', x ≠ A.n + 2 → x ≠ A.n + 1 → ((A'.set (A.n + 2) b).set (A.n + 1) b').get x = A'.get x := fun x b b' h7 h8 => by
    rw [Hp.get_set (hmk2 b), if_neg h8, hset, if_neg h7]
  refine hV _ _ ks h1 ?_ ?_ ?_
  · rcases h4 with h | ⟨b, k, k1, k3, k4, k5, k6⟩
    · exact .inl h
    · exact .inr ⟨b, k, k1, by rw [hs2 b _ _ (by omega) (by omega)]; exact k3, by omega, k5, k6⟩
  · simp; omega
  · intro x hx
    rw [hs2 x _ _ (by omega) (by omega), h6 x (by omega) (by omega) (by omega), get_push_old (by simp; omega), get_push_old (by simp; omega), get_push_old hx]
theorem n204 {bx m : Nat} {ro : Bool} {l : List (Value × Value)} {lk : Option (Array MapEntry × Nat)} (hbx : A.get bx = some (.cells [.map (some m)] ro)) (hm : A.get m = some (.map l lk)) (hl : keysOk l) (hlen : l.length < 1000) (hg : g ≤ A.n)
    (hV : ∀ A' sv ks, (ks.map Value.string).Perm (l.map Prod.fst) → AccS A.n A' 1 (strs ks) sv → A.n ≤ A'.n → (∀ x, x < A.n → A'.get x = A.get x) → V sv A') :
    WN AP K tf (.fn g 204 [.func (.func 206) #[] #[.pointer (some ⟨bx, 0, none⟩)]] A V) := by
  refine WN_body (hK.free 204 rfl) (show AP 204 = some F204 from rfl) ?_
  refine WN_seqd ?_
  simp (disch := as_aux_lemma => first | omega | simp only [hDs] <;> omega | simp [isCell]) [hRs, takeMarks, resA, resAll, resOne, Value.cells]
  refine WN_seqn ?_
  obtain ⟨T, hT⟩ : ∃ T, T = tset [Value.func (.func 206) #[] #[.pointer (some ⟨bx, 0, none⟩)]] 2 (.slice none 0 0) := ⟨_, rfl⟩
  rw [← hT]
  refine WN.call (pre := [oM 3 0]) (post := [oM 2 4]) (dst := some 4) (h := fun _ _ => 207) (vs := fun _ _ => [.slice none 0 0, .func (.func 206) #[] #[.pointer (some ⟨bx, 0, none⟩)]])
    (R := fun T1 A1 => tget T1 3 = .func (.func 206) #[] #[.pointer (some ⟨bx, 0, none⟩)] ∧ A1 = A) (V := fun _ _ v A' => ∃ ks : List ByteArray, (ks.map Value.string).Perm (l.map Prod.fst) ∧ AccS A.n A' 1 (strs ks) v ∧ A.n ≤ A'.n ∧ ∀ x, x < A.n → A'.get x = A.get x) ?_ ?_ ?_ ?_
  · simp (disch := as_aux_lemma => first | omega | simp only [hDs] <;> omega | simp [isCell]) [hRs, takeMarks, resA, resAll, resOne, Value.cells, hT]
  · rintro T1 A1 ⟨h3, rfl⟩
    exact ⟨[], [], by simp, by simp [h3]⟩
  · rintro T1 A1 ⟨h3, rfl⟩
    exact n207 hK hbx hm hl hlen hg fun A' sv ks h1 h2 h3 h4 => ⟨ks, h1, h2, h3, h4⟩
  · rintro T1 A1 v A2 ⟨h3, rfl⟩ ⟨ks, h1, h2, h4, h5⟩
    simp (disch := as_aux_lemma => first | omega | simp only [hDs] <;> omega | simp [isCell]) [hRs, takeMarks, resA, resAll, resOne, Value.cells]
    refine WN_ret ?_
    simp (disch := as_aux_lemma => first | omega | simp only [hDs] <;> omega | simp [isCell]) [hRs, takeMarks, resA, resAll, resOne, Value.cells]
    exact hV A2 v ks h1 h2 h4 h5
theorem n191 {bx m : Nat} {ro : Bool} {l : List (Value × Value)} {lk : Option (Array MapEntry × Nat)} (h191 : K 191 = none) (hbx : A.get bx = some (.cells [.map (some m)] ro)) (hm : A.get m = some (.map l lk)) (hl : keysOk l) (hlen : l.length ≤ 12) (hg : g ≤ A.n)
    (hV : ∀ A' sv ks, (ks.map Value.string).Perm (l.map Prod.fst) → AccS A.n A' 1 (strs (insAll [] ks).reverse) sv → V sv A') :
    WN AP K tf (.fn g 191 [.func (.func 206) #[] #[.pointer (some ⟨bx, 0, none⟩)]] A V) := by
  refine WN_body h191 (show AP 191 = some F191 from rfl) ?_
  refine WN_seqd ?_
  simp (disch := as_aux_lemma => first | omega | simp only [hDs] <;> omega | simp [isCell]) [hRs, takeMarks, resA, resAll, resOne, Value.cells]
  refine WN_seqn ?_
  obtain ⟨T, hT⟩ : ∃ T, T = tset [Value.func (.func 206) #[] #[.pointer (some ⟨bx, 0, none⟩)]] 2 (.slice none 0 0) := ⟨_, rfl⟩
  rw [← hT]
  refine WN.call (pre := [oM 4 0]) (post := [oM 3 5]) (dst := some 5) (h := fun _ _ => 204) (vs := fun _ _ => [.func (.func 206) #[] #[.pointer (some ⟨bx, 0, none⟩)]])
    (R := fun T1 A1 => tget T1 4 = .func (.func 206) #[] #[.pointer (some ⟨bx, 0, none⟩)] ∧ A1 = A) (V := fun _ _ v A' => ∃ ks : List ByteArray, (ks.map Value.string).Perm (l.map Prod.fst) ∧ AccS A.n A' 1 (strs ks) v ∧ A.n ≤ A'.n ∧ ∀ x, x < A.n → A'.get x = A.get x) ?_ ?_ ?_ ?_
  · simp (disch := as_aux_lemma => first | omega | simp only [hDs] <;> omega | simp [isCell]) [hRs, takeMarks, resA, resAll, resOne, Value.cells, hT]
  · rintro T1 A1 ⟨h3, rfl⟩
    exact ⟨[], [], by simp, by simp [h3]⟩
  · rintro T1 A1 ⟨h3, rfl⟩
    exact n204 hK hbx hm hl (by omega) hg fun A' sv ks h1 h2 h3 h4 => ⟨ks, h1, h2, h3, h4⟩
  · rintro T1 A1 v A2 ⟨h3, rfl⟩ ⟨ks, h1, h2, h4, h5⟩
    simp (disch := as_aux_lemma => first | omega | simp only [hDs] <;> omega | simp [isCell]) [hRs, takeMarks, resA, resAll, resOne, Value.cells]
    have hkl : ks.length = l.length := by have := h1.length_eq; simpa using this
    refine WN_seqd ?_
    rcases h2 with ⟨rfl, h2⟩ | ⟨b, n, rfl, k3, k4, k5, k6⟩
    · obtain rfl : ks = [] := by cases ks <;> simp [strs] at h2 ⊢
      simp (disch := as_aux_lemma => first | omega | simp only [hDs] <;> omega | simp [isCell]) [hRs, takeMarks, resA, resAll, resOne, Value.cells]
      refine w205_nil hK ?_
      simp (disch := as_aux_lemma => first | omega | simp only [hDs] <;> omega | simp [isCell]) [hRs, takeMarks, resA, resAll, resOne, Value.cells]
      refine .det ?_
      simp (disch := as_aux_lemma => first | omega | simp only [hDs] <;> omega | simp [isCell]) [hRs, takeMarks, resA, resAll, resOne, Value.cells]
      exact hV A2 _ [] h1 AccS.nil
    · have hn : ks.length = n := by simpa using k5
      simp (disch := as_aux_lemma => first | omega | simp only [hDs] <;> omega | simp [isCell]) [hRs, takeMarks, resA, resAll, resOne, Value.cells]
      refine w205 hK (l := ks) (zs := []) (by omega) hn (by omega) (by rintro rfl; simp at hn; omega) (by simpa using k3) fun A' n' g' y' => ?_
      simp (disch := as_aux_lemma => first | omega | simp only [hDs] <;> omega | simp [isCell]) [hRs, takeMarks, resA, resAll, resOne, Value.cells]
      refine .det ?_
      simp (disch := as_aux_lemma => first | omega | simp only [hDs] <;> omega | simp [isCell]) [hRs, takeMarks, resA, resAll, resOne, Value.cells]
      refine hV A' _ ks h1 (.inr ⟨b, n, rfl, by simpa using g', k4, ?_, k6⟩)
      have : ∀ (q rp : List ByteArray), (insAll rp q).length = rp.length + q.length := by
        intro q
        induction q with
        | nil => intro rp; rfl
        | cons x q ih => intro rp; rw [insAll, ih, insR_length]; simp; omega
      simp [this, hn]
end
end Go.Ab.Dike
