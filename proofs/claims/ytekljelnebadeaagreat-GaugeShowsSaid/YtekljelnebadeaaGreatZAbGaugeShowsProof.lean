/-
  GaugeShows returns true for every site and every reading, and leaves its arguments as they were. No condition.
-/
import Derived.Test.YtekljelnebadeaaGreatZ11
import Derived.Test.YtekljelnebadeaaGreatZ14
import Derived.Test.YtekljelnebadeaaGreatZ15
import Derived.Test.YtekljelnebadeaaGreatRows
set_option linter.unusedSimpArgs false
set_option linter.unusedVariables false
set_option linter.unusedSectionVars false
set_option maxRecDepth 100000
namespace Go.Proofs.YtekljelnebadeaaGreat
open Go.ChangeShapes Go.WideShapes Go.ChangeAt Go.RowKit Go.Ab Go.Ab.Gauge
theorem gaugeShows_lifted (os : Os) (started : os.Started) (H : Type) (enc : TypeId × Value → H) :
    ReturnsInHanded {} Tryz.checked os 5 .any (Rows.gaugeShowsSpec.pre6 enc Tryz.prog Tryz.f5 Rows.gaugeShowsRow.domain false) (Rows.gaugeShowsSpec.post enc Tryz.prog Tryz.f5 false true false false) := by
  refine returnsInHanded_of_change (C := Tryz.checked) Go.Ab.Gauge.own started (by kernel_rfl) Tryz.func5
    (ChangeSpec.witness6 (enc := enc) (C := Tryz.checked) false ⟨#[], #[.agg #[.int .i64 0, .int .i64 0, .int .i64 0, .slice none 0 0, .int .i64 0, .slice none 0 0, .int .i64 0, .int .i64 0, .int .i64 0, .int .i64 0, .int .i64 0, .int .i64 0, .slice none 0 0], .agg #[.int .i64 0, .int .i64 0, .int .i64 0, .int .i64 0, .int .i64 0, .int .i64 0]], []⟩ 8 (by kernel_rfl) (by kernel_rfl) (by kernel_rfl) (by kernel_rfl)) ?_
  intro W base args ds gs before hval0 hW hcnd _
  have hval : ∀ (j : Nat) t v, Tryz.f5.params[j]? = some t → args[j]? = some v → Value.okWide Tryz.prog W .any base t v := hval0
  have hW' := hW
  obtain ⟨p, q, hA0, hV, rfl, hfz, hnd⟩ := hW
  have hA : DataW.TrodAll enc Tryz.prog W 0 (fun _ => true) true Tryz.f5.params.toList args.toList ds p := hA0
  rw [Tryz.params5] at hA hval
  obtain ⟨v0, vs0, d0, ds0, p0, q0, hargs, rfl, rfl, h0, r0⟩ := trodAll_cons hA
  obtain ⟨v1, vs1, d1, ds1, p1, q1, rfl, rfl, rfl, h1, r1⟩ := trodAll_cons r0
  obtain ⟨rfl, rfl, rfl⟩ := trodAll_nil r1
  obtain rfl : args = #[v0, v1] := by cases args; simp_all
  obtain ⟨rfl, rfl⟩ := trodVars_none hV
  have lt0 : ∀ x ∈ p0, x.block < W.heap.size := by obtain ⟨m, hm⟩ := h0; exact DataW.trod_lt m _ _ _ hm
  have lt1 : ∀ x ∈ p1, x.block < W.heap.size := by obtain ⟨m, hm⟩ := h1; exact DataW.trod_lt m _ _ _ hm
  obtain ⟨rows0, φ0, ac0, m0, e0, g0, k0, s0⟩ := abs_arg (E := E) (F := 12) (ty := tSite) (by kernel_rfl) (hval 0 _ v0 rfl rfl) h0 Good.start
  obtain ⟨rows1, φ1, ac1, m1, e1, g1, k1, s1⟩ := abs_arg (E := E) (F := 12) (ty := tRdg) (by kernel_rfl) (hval 1 _ v1 rfl rfl) h1 g0
  obtain ⟨x, gl, tl, ul, w0, hI⟩ := sh_site s0
  obtain ⟨r, w1⟩ := sh_rdg s1
  rw [w0] at k0
  rw [w1] at k1
  refine (law_calls (E := E) KL_ok (f := 393) (f' := 5) (args' := [v0, v1]) g1 (by kernel_rfl) (isFn' 393 _ _ _ rfl) (RelL.cons (k0.mono e1) (RelL.cons k1 RelL.nil)) (law393 (x := x) (r := r) (hI.more m1) (Nat.le_refl _) fun _ => rfl)).mono fun e' W' ⟨he, bel⟩ => ?_
  subst he
  exact ⟨_, rfl, _, _, _, [], _, [], hW', trodAll_mk1 (shut_bool Tryz.underlying4 _), (trodAll_cons_mk (Below.trod Go.Ab.Gauge.laidOut (by kernel_rfl) (of_decide_eq_true (by kernel_rfl)) h0 bel lt0) (trodAll_cons_mk (Below.trod Go.Ab.Gauge.laidOut (by kernel_rfl) (of_decide_eq_true (by kernel_rfl)) h1 bel lt1) trodAll_mk0)), rfl, bel.frame _, fun h => by cases h⟩
theorem gaugeShows_over : Rows.gaugeShowsRow.holds Tryz.pinned (OpenSpec.ofChange Rows.gaugeShowsSpec) :=
  OpenClaim.holds_of_wide 5 Tryz.f5 rfl rfl rfl rfl rfl rfl rfl ⟨rfl, rfl, rfl, rfl, rfl⟩ rfl rfl rfl rfl rfl (by kernel_rfl) Tryz.func5 (by kernel_rfl)
    (of_decide_eq_true (by kernel_rfl)) (by unfold Func.isWrapper; first | (rw [if_pos (by decide +kernel)]; kernel_rfl) | (rw [if_neg (by decide +kernel)]; exact ⟨rfl, rfl⟩))
    (fun os started H enc _ => gaugeShows_lifted os started H enc)
theorem gaugeShows_proved : Rows.GaugeShowsSaid := gaugeShows_over
#print axioms gaugeShows_proved
end Go.Proofs.YtekljelnebadeaaGreat
