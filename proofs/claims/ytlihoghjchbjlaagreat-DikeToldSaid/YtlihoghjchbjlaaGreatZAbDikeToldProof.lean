/-
  DikeTold returns true for every jobs, every logs and every calls, all of them by numbers, and leaves its arguments as they were. No condition.
-/
import Derived.Test.YtlihoghjchbjlaaGreatZ11
import Derived.Test.YtlihoghjchbjlaaGreatZ15
import Derived.Test.YtlihoghjchbjlaaGreatRows
set_option linter.unusedSimpArgs false
set_option linter.unusedVariables false
set_option linter.unusedSectionVars false
set_option maxRecDepth 100000
namespace Go.Proofs.YtlihoghjchbjlaaGreat
open Go.ChangeShapes Go.WideShapes Go.ChangeAt Go.RowKit Go.Ab Go.Ab.Dikez Go.Ab.Dike
theorem dikeTold_lifted (os : Os) (started : os.Started) (H : Type) (enc : TypeId × Value → H) :
    ReturnsInHanded {} Tryz.checked os 3 .any (Rows.dikeToldSpec.pre6 enc Tryz.prog Tryz.f3 Rows.dikeToldRow.domain false) (Rows.dikeToldSpec.post enc Tryz.prog Tryz.f3 false true false false) := by
  refine returnsInHanded_of_change (C := Tryz.checked) Go.Ab.Dikez.own started (by kernel_rfl) Tryz.func3
    (ChangeSpec.witness6 (enc := enc) (C := Tryz.checked) false ⟨#[], #[.slice none 0 0, .slice none 0 0, .slice none 0 0], []⟩ 8 (by kernel_rfl) (by kernel_rfl) (by kernel_rfl) (by kernel_rfl)) ?_
  intro W base args ds gs before hval0 hW hcnd _
  have hval : ∀ (j : Nat) t v, Tryz.f3.params[j]? = some t → args[j]? = some v → Value.okWide Tryz.prog W .any base t v := hval0
  have hW' := hW
  obtain ⟨p, q, hA0, hV, rfl, hfz, hnd⟩ := hW
  have hA : DataW.TrodAll enc Tryz.prog W 0 (fun _ => true) true Tryz.f3.params.toList args.toList ds p := hA0
  rw [Tryz.params3] at hA hval
  obtain ⟨v0, vs0, d0, ds0, p0, q0, hargs, rfl, rfl, h0, r0⟩ := trodAll_cons hA
  obtain ⟨v1, vs1, d1, ds1, p1, q1, rfl, rfl, rfl, h1, r1⟩ := trodAll_cons r0
  obtain ⟨v2, vs2, d2, ds2, p2, q2, rfl, rfl, rfl, h2, r2⟩ := trodAll_cons r1
  obtain ⟨rfl, rfl, rfl⟩ := trodAll_nil r2
  obtain rfl : args = #[v0, v1, v2] := by cases args; simp_all
  obtain ⟨rfl, rfl⟩ := trodVars_none hV
  have lt0 : ∀ x ∈ p0, x.block < W.heap.size := by obtain ⟨m, hm⟩ := h0; exact DataW.trod_lt m _ _ _ hm
  have lt1 : ∀ x ∈ p1, x.block < W.heap.size := by obtain ⟨m, hm⟩ := h1; exact DataW.trod_lt m _ _ _ hm
  have lt2 : ∀ x ∈ p2, x.block < W.heap.size := by obtain ⟨m, hm⟩ := h2; exact DataW.trod_lt m _ _ _ hm
  obtain ⟨rows0, φ0, ac0, m0, e0, g0, k0, s0⟩ := abs_arg (E := E) (F := 12) (ty := .slice tJob) (by kernel_rfl) (hval 0 _ v0 rfl rfl) h0 Good.start
  obtain ⟨rows1, φ1, ac1, m1, e1, g1, k1, s1⟩ := abs_arg (E := E) (F := 12) (ty := .slice (.int .u8)) (by kernel_rfl) (hval 1 _ v1 rfl rfl) h1 g0
  obtain ⟨rows2, φ2, ac2, m2, e2, g2, k2, s2⟩ := abs_arg (E := E) (F := 12) (ty := .slice (.rep 3 (.int .u8))) (by kernel_rfl) (hval 2 _ v2 rfl rfl) h2 g1
  obtain ⟨n, J, sl, w0, hsl, hJ⟩ := sh_jobs s0
  obtain ⟨ml, lb, ll, w1, hll, hml, hb⟩ := sh_bytes s1
  obtain ⟨m, zs, cl, w2, hcl, hz⟩ := sh_trips s2
  rw [w0] at k0
  rw [w1] at k1
  rw [w2] at k2
  refine (law_callsN (E := E) KL_ok texts_ok (f := 228) (f' := 3) (args' := [v0, v1, v2]) g2 (by kernel_rfl) (RelL.cons ((k0.mono e1).mono e2) (RelL.cons (k1.mono e2) (RelL.cons k2 RelL.nil))) (law228 (hsl.more (m1.trans m2)) hJ (hll.more m2) hml hb hcl hz (Nat.le_refl _) fun _ => rfl)).mono fun e' W' ⟨he, bel⟩ => ?_
  subst he
  exact ⟨_, rfl, _, _, _, [], _, [], hW', trodAll_mk1 (shut_bool Tryz.underlying4 _), (trodAll_cons_mk (Below.trod Go.Ab.Dikez.laidOut (by kernel_rfl) (of_decide_eq_true (by kernel_rfl)) h0 bel lt0) (trodAll_cons_mk (Below.trod Go.Ab.Dikez.laidOut (by kernel_rfl) (of_decide_eq_true (by kernel_rfl)) h1 bel lt1) (trodAll_cons_mk (Below.trod Go.Ab.Dikez.laidOut (by kernel_rfl) (of_decide_eq_true (by kernel_rfl)) h2 bel lt2) trodAll_mk0))), rfl, bel.frame _, fun h => by cases h⟩
theorem dikeTold_over : Rows.dikeToldRow.holds Tryz.pinned (OpenSpec.ofChange Rows.dikeToldSpec) :=
  OpenClaim.holds_of_wide 3 Tryz.f3 rfl rfl rfl rfl rfl rfl rfl ⟨rfl, rfl, rfl, rfl, rfl⟩ rfl rfl rfl rfl rfl (by kernel_rfl) Tryz.func3 (by kernel_rfl)
    (of_decide_eq_true (by kernel_rfl)) (by unfold Func.isWrapper; first | (rw [if_pos (by decide +kernel)]; kernel_rfl) | (rw [if_neg (by decide +kernel)]; exact ⟨rfl, rfl⟩))
    (fun os started H enc _ => dikeTold_lifted os started H enc)
theorem dikeTold_proved : Rows.DikeToldSaid := dikeTold_over
#print axioms dikeTold_proved
end Go.Proofs.YtlihoghjchbjlaaGreat
