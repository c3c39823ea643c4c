/-
  GaugeKnown returns true. No condition.
-/
import Derived.Test.YtekljelnebadeaaGreatZ09
import Derived.Test.YtekljelnebadeaaGreatZ10
import Derived.Test.YtekljelnebadeaaGreatRows
set_option linter.unusedSimpArgs false
set_option linter.unusedVariables false
set_option linter.unusedSectionVars false
set_option maxRecDepth 100000
namespace Go.Ab.Gauge
open Go Go.Ab Go.Proofs
def K6 : Nat → Option Spec := tableK [(395, [mKnown])]
theorem K6_ok : SpecsOk E K6 := tableK_ok (by
  intro p hp
  simp only [List.mem_singleton] at hp
  subst hp
  exact ⟨isFn 395 (by kernel_rfl), one_ok mKnown_ok⟩)
theorem known_w : WF E.AP K6 0 395 [] (roHp []) fun v _ => v = .bool true := by
  rw [WF_spec (show K6 395 = some (memoSpec [mKnown]) from rfl)]
  rfl
theorem own : ownKnob Tryz.prog.godebug = none := by kernel_rfl
end Go.Ab.Gauge
namespace Go.Proofs.YtekljelnebadeaaGreat
open Go.ChangeShapes Go.WideShapes Go.ChangeAt Go.RowKit Go.Ab Go.Ab.Gauge
theorem gaugeKnown_lifted (os : Os) (started : os.Started) (H : Type) (enc : TypeId × Value → H) :
    ReturnsInHanded {} Tryz.checked os 7 .any (Rows.gaugeKnownSpec.pre6 enc Tryz.prog Tryz.f7 Rows.gaugeKnownRow.domain false) (Rows.gaugeKnownSpec.post enc Tryz.prog Tryz.f7 false true false false) := by
  refine returnsInHanded_of_change (C := Tryz.checked) Gauge.own started (by kernel_rfl) Tryz.func7
    (ChangeSpec.witness6 (enc := enc) (C := Tryz.checked) false ⟨#[], #[], []⟩ 8 (by kernel_rfl) (by kernel_rfl) (by kernel_rfl) (by kernel_rfl)) ?_
  intro W base args ds gs before hval0 hW hcnd _
  have hW' := hW
  obtain ⟨p, q, hA0, hV, rfl, hfz, hnd⟩ := hW
  have hA : DataW.TrodAll enc Tryz.prog W 0 (fun _ => true) true Tryz.f7.params.toList args.toList ds p := hA0
  rw [show Tryz.f7.params.toList = [] from rfl] at hA
  obtain ⟨hargs, rfl, rfl⟩ := trodAll_nil hA
  obtain rfl : args = #[] := by cases args; simp_all
  obtain ⟨rfl, rfl⟩ := trodVars_none hV
  refine (law_calls (E := E) K6_ok (f := 395) (f' := 7) (args' := []) Good.start (by kernel_rfl) (isFn 395 (by kernel_rfl)) RelL.nil known_w).mono fun e' W' ⟨he, bel⟩ => ?_
  subst he
  exact ⟨_, rfl, _, _, _, [], _, [], hW', trodAll_mk1 (shut_bool Tryz.underlying4 _), trodAll_mk0, rfl, bel.frame _, fun h => by cases h⟩
theorem gaugeKnown_over : Rows.gaugeKnownRow.holds Tryz.pinned (OpenSpec.ofChange Rows.gaugeKnownSpec) :=
  OpenClaim.holds_of_wide 7 Tryz.f7 rfl rfl rfl rfl rfl rfl rfl ⟨rfl, rfl, rfl, rfl, rfl⟩ rfl rfl rfl rfl rfl (by kernel_rfl) Tryz.func7 (by kernel_rfl)
    (of_decide_eq_true (by kernel_rfl)) (by unfold Func.isWrapper; first | (rw [if_pos (by decide +kernel)]; kernel_rfl) | (rw [if_neg (by decide +kernel)]; exact ⟨rfl, rfl⟩))
    (fun os started H enc _ => gaugeKnown_lifted os started H enc)
theorem gaugeKnown_proved : Rows.GaugeKnownSaid := gaugeKnown_over
#print axioms gaugeKnown_proved
end Go.Proofs.YtekljelnebadeaaGreat
