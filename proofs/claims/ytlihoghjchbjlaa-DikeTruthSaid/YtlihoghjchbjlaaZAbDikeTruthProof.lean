/-
  DikeTruth returns true for every wall by numbers, and leaves its argument as it was. No condition.
-/
import Derived.Test.YtlihoghjchbjlaaZ11
import Derived.Test.YtlihoghjchbjlaaZ13
import Derived.Test.YtlihoghjchbjlaaRows
set_option linter.unusedSimpArgs false
set_option linter.unusedVariables false
set_option linter.unusedSectionVars false
set_option maxRecDepth 100000
namespace Go.Proofs.Ytlihoghjchbjlaa
open Go.ChangeShapes Go.WideShapes Go.ChangeAt Go.RowKit Go.Ab Go.Ab.Dike
theorem dikeTruth_lifted (os : Os) (started : os.Started) (H : Type) (enc : TypeId × Value → H) :
    ReturnsInHanded {} Try.checked os 7 .any (Rows.dikeTruthSpec.pre6 enc Try.prog Try.f7 Rows.dikeTruthRow.domain false) (Rows.dikeTruthSpec.post enc Try.prog Try.f7 false true false false) := by
  refine returnsInHanded_of_change (C := Try.checked) Go.Ab.Dike.own started (by kernel_rfl) Try.func7
    (ChangeSpec.witness6 (enc := enc) (C := Try.checked) false ⟨#[], #[.agg #[.int .i16 0, .int .i16 0, .int .i16 0, .int .u8 0, .int .u8 0, .int .u8 0, .int .u8 0, .slice none 0 0, .slice none 0 0, .slice none 0 0]], []⟩ 8 (by kernel_rfl) (by kernel_rfl) (by kernel_rfl) (by kernel_rfl)) ?_
  intro W base args ds gs before hval0 hW hcnd _
  have hval : ∀ (j : Nat) t v, Try.f7.params[j]? = some t → args[j]? = some v → Value.okWide Try.prog W .any base t v := hval0
  have hW' := hW
  obtain ⟨p, q, hA0, hV, rfl, hfz, hnd⟩ := hW
  have hA : DataW.TrodAll enc Try.prog W 0 (fun _ => true) true Try.f7.params.toList args.toList ds p := hA0
  rw [Try.params7] at hA hval
  obtain ⟨v0, vs0, d0, ds0, p0, q0, hargs, rfl, rfl, h0, r0⟩ := trodAll_cons hA
  obtain ⟨rfl, rfl, rfl⟩ := trodAll_nil r0
  obtain rfl : args = #[v0] := by cases args; simp_all
  obtain ⟨rfl, rfl⟩ := trodVars_none hV
  have lt0 : ∀ x ∈ p0, x.block < W.heap.size := by obtain ⟨m, hm⟩ := h0; exact DataW.trod_lt m _ _ _ hm
  obtain ⟨rows0, φ0, ac0, m0, e0, g0, k0, s0⟩ := abs_arg (E := E) (F := 12) (ty := tWall) (by kernel_rfl) (hval 0 _ v0 rfl rfl) h0 Good.start
  obtain ⟨n, w0, hw⟩ := sh_wall s0
  rw [w0] at k0
  refine (law_calls (E := E) KL_ok (f := 119) (f' := 7) (args' := [v0]) g0 (by kernel_rfl) (isFn' 119 _ _ _ rfl) (RelL.cons k0 RelL.nil) (law119 hw (Nat.le_refl _) fun _ => rfl)).mono fun e' W' ⟨he, bel⟩ => ?_
  subst he
  exact ⟨_, rfl, _, _, _, [], _, [], hW', trodAll_mk1 (shut_bool Try.underlying4 _), (trodAll_cons_mk (Below.trod Go.Ab.Dike.laidOut (by kernel_rfl) (of_decide_eq_true (by kernel_rfl)) h0 bel lt0) trodAll_mk0), rfl, bel.frame _, fun h => by cases h⟩
theorem dikeTruth_over : Rows.dikeTruthRow.holds Try.pinned (OpenSpec.ofChange Rows.dikeTruthSpec) :=
  OpenClaim.holds_of_wide 7 Try.f7 rfl rfl rfl rfl rfl rfl rfl ⟨rfl, rfl, rfl, rfl, rfl⟩ rfl rfl rfl rfl rfl (by kernel_rfl) Try.func7 (by kernel_rfl)
    (of_decide_eq_true (by kernel_rfl)) (by unfold Func.isWrapper; first | (rw [if_pos (by decide +kernel)]; kernel_rfl) | (rw [if_neg (by decide +kernel)]; exact ⟨rfl, rfl⟩))
    (fun os started H enc _ => dikeTruth_lifted os started H enc)
theorem dikeTruth_proved : Rows.DikeTruthSaid := dikeTruth_over
#print axioms dikeTruth_proved
end Go.Proofs.Ytlihoghjchbjlaa
