/-
  DikeKeeps returns true for every ground, every walls, every level, every step and every choices, all of them by numbers, and leaves its arguments as they were. No condition.
-/
import Derived.Test.YtlihoghjchbjlaaGreatZ11
import Derived.Test.YtlihoghjchbjlaaGreatZ16
import Derived.Test.YtlihoghjchbjlaaGreatRows
set_option linter.unusedSimpArgs false
set_option linter.unusedVariables false
set_option linter.unusedSectionVars false
set_option maxRecDepth 100000
namespace Go.Proofs.YtlihoghjchbjlaaGreat
open Go.ChangeShapes Go.WideShapes Go.ChangeAt Go.RowKit Go.Ab Go.Ab.Dikez Go.Ab.Dike
theorem dikeKeeps_lifted (os : Os) (started : os.Started) (H : Type) (enc : TypeId × Value → H) :
    ReturnsInHanded {} Tryz.checked os 7 .any (Rows.dikeKeepsSpec.pre6 enc Tryz.prog Tryz.f7 Rows.dikeKeepsRow.domain false) (Rows.dikeKeepsSpec.post enc Tryz.prog Tryz.f7 false true false false) := by
  refine returnsInHanded_of_change (C := Tryz.checked) Go.Ab.Dikez.own started (by kernel_rfl) Tryz.func7
    (ChangeSpec.witness6 (enc := enc) (C := Tryz.checked) false ⟨#[], #[.slice none 0 0, .slice none 0 0, .int .i16 0, .int .u8 0, .slice none 0 0], []⟩ 8 (by kernel_rfl) (by kernel_rfl) (by kernel_rfl) (by kernel_rfl)) ?_
  intro W base args ds gs before hval0 hW hcnd _
  have hval : ∀ (j : Nat) t v, Tryz.f7.params[j]? = some t → args[j]? = some v → Value.okWide Tryz.prog W .any base t v := hval0
  have hW' := hW
  obtain ⟨p, q, hA0, hV, rfl, hfz, hnd⟩ := hW
  have hA : DataW.TrodAll enc Tryz.prog W 0 (fun _ => true) true Tryz.f7.params.toList args.toList ds p := hA0
  rw [Tryz.params7] at hA hval
  obtain ⟨v0, vs0, d0, ds0, p0, q0, hargs, rfl, rfl, h0, r0⟩ := trodAll_cons hA
  obtain ⟨v1, vs1, d1, ds1, p1, q1, rfl, rfl, rfl, h1, r1⟩ := trodAll_cons r0
  obtain ⟨v2, vs2, d2, ds2, p2, q2, rfl, rfl, rfl, h2, r2⟩ := trodAll_cons r1
  obtain ⟨v3, vs3, d3, ds3, p3, q3, rfl, rfl, rfl, h3, r3⟩ := trodAll_cons r2
  obtain ⟨v4, vs4, d4, ds4, p4, q4, rfl, rfl, rfl, h4, r4⟩ := trodAll_cons r3
  obtain ⟨rfl, rfl, rfl⟩ := trodAll_nil r4
  obtain rfl : args = #[v0, v1, v2, v3, v4] := by cases args; simp_all
  obtain ⟨rfl, rfl⟩ := trodVars_none hV
  have lt0 : ∀ x ∈ p0, x.block < W.heap.size := by obtain ⟨m, hm⟩ := h0; exact DataW.trod_lt m _ _ _ hm
  have lt1 : ∀ x ∈ p1, x.block < W.heap.size := by obtain ⟨m, hm⟩ := h1; exact DataW.trod_lt m _ _ _ hm
  have lt2 : ∀ x ∈ p2, x.block < W.heap.size := by obtain ⟨m, hm⟩ := h2; exact DataW.trod_lt m _ _ _ hm
  have lt3 : ∀ x ∈ p3, x.block < W.heap.size := by obtain ⟨m, hm⟩ := h3; exact DataW.trod_lt m _ _ _ hm
  have lt4 : ∀ x ∈ p4, x.block < W.heap.size := by obtain ⟨m, hm⟩ := h4; exact DataW.trod_lt m _ _ _ hm
  obtain ⟨rows0, φ0, ac0, m0, e0, g0, k0, s0⟩ := abs_arg (E := E) (F := 12) (ty := .slice (.int .i8)) (by kernel_rfl) (hval 0 _ v0 rfl rfl) h0 Good.start
  obtain ⟨rows1, φ1, ac1, m1, e1, g1, k1, s1⟩ := abs_arg (E := E) (F := 12) (ty := .slice tWall) (by kernel_rfl) (hval 1 _ v1 rfl rfl) h1 g0
  obtain ⟨rows2, φ2, ac2, m2, e2, g2, k2, s2⟩ := abs_arg (E := E) (F := 12) (ty := .int .i16) (by kernel_rfl) (hval 2 _ v2 rfl rfl) h2 g1
  obtain ⟨rows3, φ3, ac3, m3, e3, g3, k3, s3⟩ := abs_arg (E := E) (F := 12) (ty := .int .u8) (by kernel_rfl) (hval 3 _ v3 rfl rfl) h3 g2
  obtain ⟨rows4, φ4, ac4, m4, e4, g4, k4, s4⟩ := abs_arg (E := E) (F := 12) (ty := .slice (.int .u8)) (by kernel_rfl) (hval 4 _ v4 rfl rfl) h4 g3
  obtain ⟨n0, xs, a0, w0, ha0, _, hax⟩ := sh_slice_k (k := .i8) (e := .int .i8) rfl s0
  obtain ⟨n1, a1, w1, haW⟩ := sh_walls s1
  obtain ⟨lv, w2, hlv⟩ := sh_int s2
  obtain ⟨up, w3, hup⟩ := sh_int s3
  obtain ⟨nq, us, a4, w4, ha4, haq, haus⟩ := sh_slice_k (k := .u8) (e := .int .u8) rfl s4
  rw [w0] at k0
  rw [w1] at k1
  rw [w2] at k2
  rw [w3] at k3
  rw [w4] at k4
  refine (law_calls (E := E) KL_ok (f := 232) (f' := 7) (args' := [v0, v1, v2, v3, v4]) g4 (by kernel_rfl) (isFn' 232 _ _ _ rfl) (RelL.cons ((((k0.mono e1).mono e2).mono e3).mono e4) (RelL.cons (((k1.mono e2).mono e3).mono e4) (RelL.cons ((k2.mono e3).mono e4) (RelL.cons (k3.mono e4) (RelL.cons k4 RelL.nil))))) (law232 (ha0.more (m1.trans (m2.trans (m3.trans m4)))) (i8_rng hax) (haW.more (m2.trans (m3.trans m4))) (i16_one hlv) (u8_one hup) ha4 (Nat.lt_of_le_of_lt haq (by decide)) (u8_rngs haus) (Nat.le_refl _) fun _ => rfl)).mono fun e' W' ⟨he, bel⟩ => ?_
  subst he
  exact ⟨_, rfl, _, _, _, [], _, [], hW', trodAll_mk1 (shut_bool Tryz.underlying4 _), (trodAll_cons_mk (Below.trod Go.Ab.Dikez.laidOut (by kernel_rfl) (of_decide_eq_true (by kernel_rfl)) h0 bel lt0) (trodAll_cons_mk (Below.trod Go.Ab.Dikez.laidOut (by kernel_rfl) (of_decide_eq_true (by kernel_rfl)) h1 bel lt1) (trodAll_cons_mk (Below.trod Go.Ab.Dikez.laidOut (by kernel_rfl) (of_decide_eq_true (by kernel_rfl)) h2 bel lt2) (trodAll_cons_mk (Below.trod Go.Ab.Dikez.laidOut (by kernel_rfl) (of_decide_eq_true (by kernel_rfl)) h3 bel lt3) (trodAll_cons_mk (Below.trod Go.Ab.Dikez.laidOut (by kernel_rfl) (of_decide_eq_true (by kernel_rfl)) h4 bel lt4) trodAll_mk0))))), rfl, bel.frame _, fun h => by cases h⟩
theorem dikeKeeps_over : Rows.dikeKeepsRow.holds Tryz.pinned (OpenSpec.ofChange Rows.dikeKeepsSpec) :=
  OpenClaim.holds_of_wide 7 Tryz.f7 rfl rfl rfl rfl rfl rfl rfl ⟨rfl, rfl, rfl, rfl, rfl⟩ rfl rfl rfl rfl rfl (by kernel_rfl) Tryz.func7 (by kernel_rfl)
    (of_decide_eq_true (by kernel_rfl)) (by unfold Func.isWrapper; first | (rw [if_pos (by decide +kernel)]; kernel_rfl) | (rw [if_neg (by decide +kernel)]; exact ⟨rfl, rfl⟩))
    (fun os started H enc _ => dikeKeeps_lifted os started H enc)
theorem dikeKeeps_proved : Rows.DikeKeepsSaid := dikeKeeps_over
#print axioms dikeKeeps_proved
end Go.Proofs.YtlihoghjchbjlaaGreat
