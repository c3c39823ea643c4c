/-
  GridTexts returns true for every input, and leaves its arguments as they were: the row, and the tied card. No condition.
-/
import Derived.Test.YtmppgcknmmmioaaGreatDoorZ17
import Derived.Test.YtmppgcknmmmioaaGreatDoorCards
import Derived.SevenTiedAt
set_option linter.unusedSimpArgs false
set_option linter.unusedVariables false
set_option linter.unusedSectionVars false
set_option maxRecDepth 100000
namespace Go.Proofs.YtmppgcknmmmioaaGreatDoor
open Go.ChangeShapes Go.WideShapes Go.ChangeAt Go.RowKit Go.Ab Go.Ab.Grid
theorem gridTexts_lifted (os : Os) (started : os.Started) (H : Type) (enc : TypeId × Value → H) :
    ReturnsInHanded {} Tryz.checked os 7 .any (fun w args => (Rows.gridTextsSpec.pre enc Tryz.prog Tryz.f7 [] false w args ∧ laidMetH Tryz.prog Rows.gridTextsRow.laid w) ∧ sizedMet enc Tryz.prog Tryz.f7 (OpenSpec.ofChange Rows.gridTextsSpec) false w args)
      (Rows.gridTextsSpec.post enc Tryz.prog Tryz.f7 false true false false) := by
  refine returns_laid (f := 7) (s := Rows.gridTextsSpec) started (by kernel_rfl) Tryz.func7 #[.agg #[.int .i64 0, .int .i64 0, .int .i64 0, .slice none 0 0], .string ⟨⟨[]⟩⟩] (by kernel_rfl) (by kernel_rfl) (by kernel_rfl) ?_
  intro W base args ds gs before hval0 hW hL
  have hval : ∀ (j : Nat) t v, Tryz.f7.params[j]? = some t → args[j]? = some v → Value.okWide Tryz.prog W .any base t v := hval0
  have hW' := hW
  obtain ⟨p, q, hA0, hV, rfl, hfz, hnd⟩ := hW
  have hA : DataW.TrodAll enc Tryz.prog W 0 (fun _ => true) true Tryz.f7.params.toList args.toList ds p := hA0
  rw [Tryz.params7] at hA hval
  obtain ⟨v0, vs0, d0, ds0, p0, q0, hargs, rfl, rfl, h0, r0⟩ := trodAll_cons hA
  obtain ⟨v1, vs1, d1, ds1, p1, q1, rfl, rfl, rfl, h1, r1⟩ := trodAll_cons r0
  obtain ⟨rfl, rfl, rfl⟩ := trodAll_nil r1
  obtain rfl : args = #[v0, v1] := by cases args; simp_all
  obtain ⟨rfl, rfl⟩ := trodVars_none hV
  have lt0 : ∀ x ∈ p0, x.block < W.heap.size := by obtain ⟨m, hm⟩ := h0; exact DataW.trod_lt m _ _ _ hm
  have lt1 : ∀ x ∈ p1, x.block < W.heap.size := by obtain ⟨m, hm⟩ := h1; exact DataW.trod_lt m _ _ _ hm
  obtain ⟨rows0, φ0, ac0, m0, e0, g0, k0, s0⟩ := abs_arg (E := E W.heap) (F := 12) (ty := tGrid) (by kernel_rfl) (hval 0 _ v0 rfl rfl) h0 Good.start
  obtain ⟨rows1, φ1, ac1, m1, e1, g1, k1, s1⟩ := abs_arg (E := E W.heap) (F := 12) (ty := .str) (by kernel_rfl) (hval 1 _ v1 rfl rfl) h1 g0
  obtain ⟨w, h, s, m, zs, sl, w0, hsl, _, _⟩ := sh_grid (s0.mono m1)
  obtain ⟨l, w1, _⟩ := sh_str s1
  rw [w0] at k0
  rw [w1] at k1
  refine (law_calls (E := E W.heap) (KL_ok (laid_in hL)) (f := 283) (f' := 7) (args' := [v0, v1]) g1 (by kernel_rfl) (isFn' 283 _ _ _ rfl) (RelL.cons (k0.mono e1) (RelL.cons k1 RelL.nil)) (law283 (x := ⟨w, h, s, m, zs⟩) ⟨_, rfl, hsl⟩ (Nat.le_refl _) fun _ => rfl) (hW := fun _ _ => rfl)).mono fun e' W' ⟨he, bel⟩ => ?_
  subst he
  exact ⟨_, rfl, _, _, _, [], _, [], hW', trodAll_mk1 (shut_bool Tryz.underlying4 _), (trodAll_cons_mk (Below.trod Go.Ab.Grid.laidOut (by kernel_rfl) (of_decide_eq_true (by kernel_rfl)) h0 bel lt0) (trodAll_cons_mk (Below.trod Go.Ab.Grid.laidOut (by kernel_rfl) (of_decide_eq_true (by kernel_rfl)) h1 bel lt1) trodAll_mk0)), rfl, bel.frame _, fun h => by cases h⟩
theorem gridTexts_over : Rows.GridTextsSaid :=
  OpenClaim.holds_of_wide 7 Tryz.f7 rfl rfl rfl rfl rfl rfl rfl ⟨rfl, rfl, rfl, rfl, rfl⟩ rfl rfl rfl rfl rfl (by kernel_rfl) Tryz.func7 (by kernel_rfl)
    (of_decide_eq_true (by kernel_rfl)) (by unfold Func.isWrapper; first | (rw [if_pos (by decide +kernel)]; kernel_rfl) | (rw [if_neg (by decide +kernel)]; exact ⟨rfl, rfl⟩))
    (fun os started H enc _ => gridTexts_lifted os started H enc)
theorem gridTexts_proved : Rows.GridTextsCardSaid :=
  Claim7.holds_tied_plain_at .later [] [.data, .data, .data, .sentinel, .sentinel, .listed, .data] true (true, "982f128234d701cae9c98cd68b275084e9de5bd09edbd5216078bf8e5fd7eafb") true gridTexts_over (fun _ h => by cases h) (by kernel_rfl) (fun _ h => by cases h) gridTexts_row_tie rfl ⟨rfl, rfl⟩ (by kernel_rfl) rfl
    (fun f fn hf hfn => by
      obtain rfl : f = 7 := Option.some.inj ((show Tryz.prog.funcNamed Rows.gridTextsRow.func = some 7 by kernel_rfl).symm.trans hf) |>.symm
      obtain rfl : fn = Tryz.f7 := (Option.some.inj (Tryz.func7.symm.trans hfn)).symm
      exact ⟨by kernel_rfl, fun j t ht => by
        rw [Tryz.params7] at ht
        have hm : t ∈ [24, 9] := by simpa using Array.mem_of_getElem? ht
        have hall : ([24, 9].all fun u => !Tryz.prog.wantsStandIn u) = true := by kernel_rfl
        exact (show Tryz.prog.wantsStandIn t = false by simpa using List.all_eq_true.1 hall t hm)⟩)
    (by kernel_rfl)
#print axioms gridTexts_proved
end Go.Proofs.YtmppgcknmmmioaaGreatDoor
