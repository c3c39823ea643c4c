/-
  DikeTimes returns true for every jobs, every begin, and every windows, all of them by numbers, and leaves its arguments as they were. No condition.
-/
import Derived.Test.YtlihoghjchbjlaaZ11
import Derived.Test.YtlihoghjchbjlaaZ14
import Derived.Test.YtlihoghjchbjlaaRows
set_option linter.unusedSimpArgs false
set_option linter.unusedVariables false
set_option linter.unusedSectionVars false
set_option maxRecDepth 100000
namespace Go.Proofs.Ytlihoghjchbjlaa
open Go.ChangeShapes Go.WideShapes Go.ChangeAt Go.RowKit Go.Ab Go.Ab.Dike
theorem dikeTimes_lifted (os : Os) (started : os.Started) (H : Type) (enc : TypeId × Value → H) :
    ReturnsInHanded {} Try.checked os 8 .any (Rows.dikeTimesSpec.pre6 enc Try.prog Try.f8 Rows.dikeTimesRow.domain false) (Rows.dikeTimesSpec.post enc Try.prog Try.f8 false true false false) := by
  refine returnsInHanded_of_change (C := Try.checked) Go.Ab.Dike.own started (by kernel_rfl) Try.func8
    (ChangeSpec.witness6 (enc := enc) (C := Try.checked) false ⟨#[], #[.slice none 0 0, .int .u16 0, .int .u16 0, .int .u16 0, .slice none 0 0, .int .u8 0], []⟩ 8 (by kernel_rfl) (by kernel_rfl) (by kernel_rfl) (by kernel_rfl)) ?_
  intro W base args ds gs before hval0 hW hcnd _
  have hval : ∀ (j : Nat) t v, Try.f8.params[j]? = some t → args[j]? = some v → Value.okWide Try.prog W .any base t v := hval0
  have hW' := hW
  obtain ⟨p, q, hA0, hV, rfl, hfz, hnd⟩ := hW
  have hA : DataW.TrodAll enc Try.prog W 0 (fun _ => true) true Try.f8.params.toList args.toList ds p := hA0
  rw [Try.params8] at hA hval
  obtain ⟨v0, vs0, d0, ds0, p0, q0, hargs, rfl, rfl, h0, r0⟩ := trodAll_cons hA
  obtain ⟨v1, vs1, d1, ds1, p1, q1, rfl, rfl, rfl, h1, r1⟩ := trodAll_cons r0
  obtain ⟨v2, vs2, d2, ds2, p2, q2, rfl, rfl, rfl, h2, r2⟩ := trodAll_cons r1
  obtain ⟨v3, vs3, d3, ds3, p3, q3, rfl, rfl, rfl, h3, r3⟩ := trodAll_cons r2
  obtain ⟨v4, vs4, d4, ds4, p4, q4, rfl, rfl, rfl, h4, r4⟩ := trodAll_cons r3
  obtain ⟨v5, vs5, d5, ds5, p5, q5, rfl, rfl, rfl, h5, r5⟩ := trodAll_cons r4
  obtain ⟨rfl, rfl, rfl⟩ := trodAll_nil r5
  obtain rfl : args = #[v0, v1, v2, v3, v4, v5] := by cases args; simp_all
  obtain ⟨rfl, rfl⟩ := trodVars_none hV
  have lt0 : ∀ x ∈ p0, x.block < W.heap.size := by obtain ⟨m, hm⟩ := h0; exact DataW.trod_lt m _ _ _ hm
  have lt1 : ∀ x ∈ p1, x.block < W.heap.size := by obtain ⟨m, hm⟩ := h1; exact DataW.trod_lt m _ _ _ hm
  have lt2 : ∀ x ∈ p2, x.block < W.heap.size := by obtain ⟨m, hm⟩ := h2; exact DataW.trod_lt m _ _ _ hm
  have lt3 : ∀ x ∈ p3, x.block < W.heap.size := by obtain ⟨m, hm⟩ := h3; exact DataW.trod_lt m _ _ _ hm
  have lt4 : ∀ x ∈ p4, x.block < W.heap.size := by obtain ⟨m, hm⟩ := h4; exact DataW.trod_lt m _ _ _ hm
  have lt5 : ∀ x ∈ p5, x.block < W.heap.size := by obtain ⟨m, hm⟩ := h5; exact DataW.trod_lt m _ _ _ hm
  obtain ⟨rows0, φ0, ac0, m0, e0, g0, k0, s0⟩ := abs_arg (E := E) (F := 12) (ty := .slice tJob) (by kernel_rfl) (hval 0 _ v0 rfl rfl) h0 Good.start
  obtain ⟨rows1, φ1, ac1, m1, e1, g1, k1, s1⟩ := abs_arg (E := E) (F := 12) (ty := .int .u16) (by kernel_rfl) (hval 1 _ v1 rfl rfl) h1 g0
  obtain ⟨rows2, φ2, ac2, m2, e2, g2, k2, s2⟩ := abs_arg (E := E) (F := 12) (ty := .int .u16) (by kernel_rfl) (hval 2 _ v2 rfl rfl) h2 g1
  obtain ⟨rows3, φ3, ac3, m3, e3, g3, k3, s3⟩ := abs_arg (E := E) (F := 12) (ty := .int .u16) (by kernel_rfl) (hval 3 _ v3 rfl rfl) h3 g2
  obtain ⟨rows4, φ4, ac4, m4, e4, g4, k4, s4⟩ := abs_arg (E := E) (F := 12) (ty := .slice (.rep 2 (.int .u16))) (by kernel_rfl) (hval 4 _ v4 rfl rfl) h4 g3
  obtain ⟨rows5, φ5, ac5, m5, e5, g5, k5, s5⟩ := abs_arg (E := E) (F := 12) (ty := .int .u8) (by kernel_rfl) (hval 5 _ v5 rfl rfl) h5 g4
  obtain ⟨n, J, sl, w0, hsl, hJ⟩ := sh_jobs s0
  obtain ⟨be, w1, hbe⟩ := sh_int s1
  obtain ⟨mo, w2, hmo⟩ := sh_int s2
  obtain ⟨tr, w3, htr⟩ := sh_int s3
  obtain ⟨nw, zs, cl, w4, hcl, hz⟩ := sh_pairs s4
  obtain ⟨wo, w5, hwo⟩ := sh_int s5
  rw [w0] at k0
  rw [w1] at k1
  rw [w2] at k2
  rw [w3] at k3
  rw [w4] at k4
  rw [w5] at k5
  refine (law_calls (E := E) KL_ok (f := 120) (f' := 8) (args' := [v0, v1, v2, v3, v4, v5]) g5 (by kernel_rfl) (isFn' 120 _ _ _ rfl) (RelL.cons (((((k0.mono e1).mono e2).mono e3).mono e4).mono e5) (RelL.cons ((((k1.mono e2).mono e3).mono e4).mono e5) (RelL.cons (((k2.mono e3).mono e4).mono e5) (RelL.cons ((k3.mono e4).mono e5) (RelL.cons (k4.mono e5) (RelL.cons k5 RelL.nil)))))) (law120 (hsl.more (m1.trans (m2.trans (m3.trans (m4.trans m5))))) hJ (hcl.more m5) hz (u16_rng hbe) (u16_rng hmo) (u16_rng htr) (u8_rng hwo) (Nat.le_refl _) fun _ => rfl)).mono fun e' W' ⟨he, bel⟩ => ?_
  subst he
  exact ⟨_, rfl, _, _, _, [], _, [], hW', trodAll_mk1 (shut_bool Try.underlying4 _), (trodAll_cons_mk (Below.trod Go.Ab.Dike.laidOut (by kernel_rfl) (of_decide_eq_true (by kernel_rfl)) h0 bel lt0) (trodAll_cons_mk (Below.trod Go.Ab.Dike.laidOut (by kernel_rfl) (of_decide_eq_true (by kernel_rfl)) h1 bel lt1) (trodAll_cons_mk (Below.trod Go.Ab.Dike.laidOut (by kernel_rfl) (of_decide_eq_true (by kernel_rfl)) h2 bel lt2) (trodAll_cons_mk (Below.trod Go.Ab.Dike.laidOut (by kernel_rfl) (of_decide_eq_true (by kernel_rfl)) h3 bel lt3) (trodAll_cons_mk (Below.trod Go.Ab.Dike.laidOut (by kernel_rfl) (of_decide_eq_true (by kernel_rfl)) h4 bel lt4) (trodAll_cons_mk (Below.trod Go.Ab.Dike.laidOut (by kernel_rfl) (of_decide_eq_true (by kernel_rfl)) h5 bel lt5) trodAll_mk0)))))), rfl, bel.frame _, fun h => by cases h⟩
theorem dikeTimes_over : Rows.dikeTimesRow.holds Try.pinned (OpenSpec.ofChange Rows.dikeTimesSpec) :=
  OpenClaim.holds_of_wide 8 Try.f8 rfl rfl rfl rfl rfl rfl rfl ⟨rfl, rfl, rfl, rfl, rfl⟩ rfl rfl rfl rfl rfl (by kernel_rfl) Try.func8 (by kernel_rfl)
    (of_decide_eq_true (by kernel_rfl)) (by unfold Func.isWrapper; first | (rw [if_pos (by decide +kernel)]; kernel_rfl) | (rw [if_neg (by decide +kernel)]; exact ⟨rfl, rfl⟩))
    (fun os started H enc _ => dikeTimes_lifted os started H enc)
theorem dikeTimes_proved : Rows.DikeTimesSaid := dikeTimes_over
#print axioms dikeTimes_proved
end Go.Proofs.Ytlihoghjchbjlaa
