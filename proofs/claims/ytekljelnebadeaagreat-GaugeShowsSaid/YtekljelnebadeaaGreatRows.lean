/-
  No cell of these rows narrows 'for every input' (looked for: loops, veiled, ifaces, maps, wideKeys, modest, calm, conditions, laid).
  DERIVED. THE GIVEN ROWS OF THIS SEAT. 9 by the template 'for every input the law returns true; each argument reads behind the call as it read before'; 0 by the template 'total and deterministic' (their statements: YtekljelnebadeaaGreatTotals.lean).
  GIVEN WITH THE SEED: the statements are not yours to turn. If you find one false, say at which input.
  Laid BY PROGRAM, IN A SANDBOX (cutbox-rows.mjs): the forced cells as the released guide's own fill.sh prints them over the translation 5a4bde56a7344b83… (all of the seat's roots in one cut). By AI agents, Wed Nov 11 2026. No macro, syntax, notation, axiom, sorry.
-/
import Derived.Test.YtekljelnebadeaaGreatChecked
import GoSem.Claim
import GoSem.ClaimJoined
import GoSem.ClaimMapViews
import Derived.JoinedTies
import Derived.KernelRfl
namespace Go.Proofs.YtekljelnebadeaaGreat
/- THE CELL 'sum', in the pinned program and in every row, IS THE sha256 OF THE DUMP (.gsa) THAT YtekljelnebadeaaGreatProg.lean LOADS. Nothing in Lean hashes anything: it is a label: what it is worth is what the hold of that sum in a sandbox is worth. -/
noncomputable def Tryz.pinned : Pinned := { name := "ytekljelnebadeaagreat", sum := "5a4bde56a7344b83ff42b9c0bcd60975aad01d716b79c51fcb5701c20ad6aec8", checked := Tryz.checked }
namespace Rows
def none {H : Type} : Left H := { results := [], args := [] }

/-- 'tidewalllaw06.GaugeShrinks': WHATEVER THE INPUT: true; the input reads as it did. -/
def gaugeShrinksSpec : ChangeSpec := { name := "gaugeShrinks", fn := fun _ => fun
  | [d1, d2, d3] => { results := [.lit (.bool true)], args := [d1, d2, d3] }
  | _ => none }
def gaugeShrinksRow : OpenClaim := { program := "ytekljelnebadeaagreat", sum := "5a4bde56a7344b83ff42b9c0bcd60975aad01d716b79c51fcb5701c20ad6aec8", func := "tidewall/tidewalllaw06.GaugeShrinks", spec := "gaugeShrinks", inPlace := ["math.sqrt"], unfollowed := true, recurses := true, named := ["math/bits.divideError", "math/bits.overflowError"], plainKeys := false, apart := false }
def GaugeShrinksSaid : Prop := gaugeShrinksRow.holds Tryz.pinned (OpenSpec.ofChange gaugeShrinksSpec)

/-- ITS FALSE NEIGHBOUR: 'it returns false'. Refute it at one input. -/
def gaugeShrinksWrong : ChangeSpec := { name := "gaugeShrinks", fn := fun _ => fun
  | [d1, d2, d3] => { results := [.lit (.bool false)], args := [d1, d2, d3] }
  | _ => none }
def GaugeShrinksWrongFalsely : Prop := gaugeShrinksRow.holds Tryz.pinned (OpenSpec.ofChange gaugeShrinksWrong)

/-- 'tidewalllaw06.GaugeInside': WHATEVER THE INPUT: true; the input reads as it did. -/
def gaugeInsideSpec : ChangeSpec := { name := "gaugeInside", fn := fun _ => fun
  | [d1, d2, d3] => { results := [.lit (.bool true)], args := [d1, d2, d3] }
  | _ => none }
def gaugeInsideRow : OpenClaim := { program := "ytekljelnebadeaagreat", sum := "5a4bde56a7344b83ff42b9c0bcd60975aad01d716b79c51fcb5701c20ad6aec8", func := "tidewall/tidewalllaw06.GaugeInside", spec := "gaugeInside", inPlace := ["math.sqrt"], unfollowed := true, recurses := true, named := ["math/bits.divideError", "math/bits.overflowError"], plainKeys := false, apart := false }
def GaugeInsideSaid : Prop := gaugeInsideRow.holds Tryz.pinned (OpenSpec.ofChange gaugeInsideSpec)

/-- ITS FALSE NEIGHBOUR: 'it returns false'. Refute it at one input. -/
def gaugeInsideWrong : ChangeSpec := { name := "gaugeInside", fn := fun _ => fun
  | [d1, d2, d3] => { results := [.lit (.bool false)], args := [d1, d2, d3] }
  | _ => none }
def GaugeInsideWrongFalsely : Prop := gaugeInsideRow.holds Tryz.pinned (OpenSpec.ofChange gaugeInsideWrong)

/-- 'tidewalllaw06.GaugeShows': WHATEVER THE INPUT: true; the input reads as it did. -/
def gaugeShowsSpec : ChangeSpec := { name := "gaugeShows", fn := fun _ => fun
  | [d1, d2] => { results := [.lit (.bool true)], args := [d1, d2] }
  | _ => none }
def gaugeShowsRow : OpenClaim := { program := "ytekljelnebadeaagreat", sum := "5a4bde56a7344b83ff42b9c0bcd60975aad01d716b79c51fcb5701c20ad6aec8", func := "tidewall/tidewalllaw06.GaugeShows", spec := "gaugeShows", inPlace := ["math.sqrt"], unfollowed := true, recurses := true, named := ["math/bits.divideError", "math/bits.overflowError"], plainKeys := false, apart := false }
def GaugeShowsSaid : Prop := gaugeShowsRow.holds Tryz.pinned (OpenSpec.ofChange gaugeShowsSpec)

/-- ITS FALSE NEIGHBOUR: 'it returns false'. Refute it at one input. -/
def gaugeShowsWrong : ChangeSpec := { name := "gaugeShows", fn := fun _ => fun
  | [d1, d2] => { results := [.lit (.bool false)], args := [d1, d2] }
  | _ => none }
def GaugeShowsWrongFalsely : Prop := gaugeShowsRow.holds Tryz.pinned (OpenSpec.ofChange gaugeShowsWrong)

/-- 'tidewalllaw06.GaugeLefts': WHATEVER THE INPUT: true; the input reads as it did. -/
def gaugeLeftsSpec : ChangeSpec := { name := "gaugeLefts", fn := fun _ => fun
  | [d1, d2] => { results := [.lit (.bool true)], args := [d1, d2] }
  | _ => none }
def gaugeLeftsRow : OpenClaim := { program := "ytekljelnebadeaagreat", sum := "5a4bde56a7344b83ff42b9c0bcd60975aad01d716b79c51fcb5701c20ad6aec8", func := "tidewall/tidewalllaw06.GaugeLefts", spec := "gaugeLefts", inPlace := ["math.sqrt"], unfollowed := true, recurses := true, named := ["math/bits.divideError", "math/bits.overflowError"], plainKeys := false, apart := false }
def GaugeLeftsSaid : Prop := gaugeLeftsRow.holds Tryz.pinned (OpenSpec.ofChange gaugeLeftsSpec)

/-- ITS FALSE NEIGHBOUR: 'it returns false'. Refute it at one input. -/
def gaugeLeftsWrong : ChangeSpec := { name := "gaugeLefts", fn := fun _ => fun
  | [d1, d2] => { results := [.lit (.bool false)], args := [d1, d2] }
  | _ => none }
def GaugeLeftsWrongFalsely : Prop := gaugeLeftsRow.holds Tryz.pinned (OpenSpec.ofChange gaugeLeftsWrong)

/-- 'tidewalllaw06.GaugeKnown': WHATEVER THE INPUT: true; the input reads as it did. -/
def gaugeKnownSpec : ChangeSpec := { name := "gaugeKnown", fn := fun _ => fun
  | [] => { results := [.lit (.bool true)], args := [] }
  | _ => none }
def gaugeKnownRow : OpenClaim := { program := "ytekljelnebadeaagreat", sum := "5a4bde56a7344b83ff42b9c0bcd60975aad01d716b79c51fcb5701c20ad6aec8", func := "tidewall/tidewalllaw06.GaugeKnown", spec := "gaugeKnown", inPlace := ["math.sqrt"], unfollowed := true, recurses := true, named := ["math/bits.divideError", "math/bits.overflowError"], plainKeys := false, apart := false }
def GaugeKnownSaid : Prop := gaugeKnownRow.holds Tryz.pinned (OpenSpec.ofChange gaugeKnownSpec)

/-- ITS FALSE NEIGHBOUR: 'it returns false'. Refute it at one input. -/
def gaugeKnownWrong : ChangeSpec := { name := "gaugeKnown", fn := fun _ => fun
  | [] => { results := [.lit (.bool false)], args := [] }
  | _ => none }
def GaugeKnownWrongFalsely : Prop := gaugeKnownRow.holds Tryz.pinned (OpenSpec.ofChange gaugeKnownWrong)

/-- 'tidewalllaw06.GaugeAllows': WHATEVER THE INPUT: true; the input reads as it did. -/
def gaugeAllowsSpec : ChangeSpec := { name := "gaugeAllows", fn := fun _ => fun
  | [d1, d2, d3, d4] => { results := [.lit (.bool true)], args := [d1, d2, d3, d4] }
  | _ => none }
def gaugeAllowsRow : OpenClaim := { program := "ytekljelnebadeaagreat", sum := "5a4bde56a7344b83ff42b9c0bcd60975aad01d716b79c51fcb5701c20ad6aec8", func := "tidewall/tidewalllaw06.GaugeAllows", spec := "gaugeAllows", inPlace := ["math.sqrt"], unfollowed := true, recurses := true, named := ["math/bits.divideError", "math/bits.overflowError"], plainKeys := false, apart := false }
def GaugeAllowsSaid : Prop := gaugeAllowsRow.holds Tryz.pinned (OpenSpec.ofChange gaugeAllowsSpec)

/-- ITS FALSE NEIGHBOUR: 'it returns false'. Refute it at one input. -/
def gaugeAllowsWrong : ChangeSpec := { name := "gaugeAllows", fn := fun _ => fun
  | [d1, d2, d3, d4] => { results := [.lit (.bool false)], args := [d1, d2, d3, d4] }
  | _ => none }
def GaugeAllowsWrongFalsely : Prop := gaugeAllowsRow.holds Tryz.pinned (OpenSpec.ofChange gaugeAllowsWrong)

/-- 'tidewalllaw06.GaugeProofs': WHATEVER THE INPUT: true; the input reads as it did. -/
def gaugeProofsSpec : ChangeSpec := { name := "gaugeProofs", fn := fun _ => fun
  | [d1, d2, d3, d4] => { results := [.lit (.bool true)], args := [d1, d2, d3, d4] }
  | _ => none }
def gaugeProofsRow : OpenClaim := { program := "ytekljelnebadeaagreat", sum := "5a4bde56a7344b83ff42b9c0bcd60975aad01d716b79c51fcb5701c20ad6aec8", func := "tidewall/tidewalllaw06.GaugeProofs", spec := "gaugeProofs", inPlace := ["math.sqrt"], unfollowed := true, recurses := true, named := ["math/bits.divideError", "math/bits.overflowError"], plainKeys := false, apart := false }
def GaugeProofsSaid : Prop := gaugeProofsRow.holds Tryz.pinned (OpenSpec.ofChange gaugeProofsSpec)

/-- ITS FALSE NEIGHBOUR: 'it returns false'. Refute it at one input. -/
def gaugeProofsWrong : ChangeSpec := { name := "gaugeProofs", fn := fun _ => fun
  | [d1, d2, d3, d4] => { results := [.lit (.bool false)], args := [d1, d2, d3, d4] }
  | _ => none }
def GaugeProofsWrongFalsely : Prop := gaugeProofsRow.holds Tryz.pinned (OpenSpec.ofChange gaugeProofsWrong)

/-- 'tidewalllaw06.GaugeTruth': WHATEVER THE INPUT: true; the input reads as it did. -/
def gaugeTruthSpec : ChangeSpec := { name := "gaugeTruth", fn := fun _ => fun
  | [d1, d2, d3] => { results := [.lit (.bool true)], args := [d1, d2, d3] }
  | _ => none }
def gaugeTruthRow : OpenClaim := { program := "ytekljelnebadeaagreat", sum := "5a4bde56a7344b83ff42b9c0bcd60975aad01d716b79c51fcb5701c20ad6aec8", func := "tidewall/tidewalllaw06.GaugeTruth", spec := "gaugeTruth", inPlace := ["math.sqrt"], unfollowed := true, recurses := true, named := ["math/bits.divideError", "math/bits.overflowError"], plainKeys := false, apart := false }
def GaugeTruthSaid : Prop := gaugeTruthRow.holds Tryz.pinned (OpenSpec.ofChange gaugeTruthSpec)

/-- ITS FALSE NEIGHBOUR: 'it returns false'. Refute it at one input. -/
def gaugeTruthWrong : ChangeSpec := { name := "gaugeTruth", fn := fun _ => fun
  | [d1, d2, d3] => { results := [.lit (.bool false)], args := [d1, d2, d3] }
  | _ => none }
def GaugeTruthWrongFalsely : Prop := gaugeTruthRow.holds Tryz.pinned (OpenSpec.ofChange gaugeTruthWrong)

/-- 'tidewalllaw06.GaugeProved': WHATEVER THE INPUT: true; the input reads as it did. -/
def gaugeProvedSpec : ChangeSpec := { name := "gaugeProved", fn := fun _ => fun
  | [d1, d2] => { results := [.lit (.bool true)], args := [d1, d2] }
  | _ => none }
def gaugeProvedRow : OpenClaim := { program := "ytekljelnebadeaagreat", sum := "5a4bde56a7344b83ff42b9c0bcd60975aad01d716b79c51fcb5701c20ad6aec8", func := "tidewall/tidewalllaw06.GaugeProved", spec := "gaugeProved", inPlace := ["math.sqrt"], unfollowed := true, recurses := true, named := ["math/bits.divideError", "math/bits.overflowError"], plainKeys := false, apart := false }
def GaugeProvedSaid : Prop := gaugeProvedRow.holds Tryz.pinned (OpenSpec.ofChange gaugeProvedSpec)

/-- ITS FALSE NEIGHBOUR: 'it returns false'. Refute it at one input. -/
def gaugeProvedWrong : ChangeSpec := { name := "gaugeProved", fn := fun _ => fun
  | [d1, d2] => { results := [.lit (.bool false)], args := [d1, d2] }
  | _ => none }
def GaugeProvedWrongFalsely : Prop := gaugeProvedRow.holds Tryz.pinned (OpenSpec.ofChange gaugeProvedWrong)

/- THE SECOND FORM. 'bulk': how many values and letters a reading holds, each counted each time it is reached (what is shared counts as often as it is met; a slice's spare places count too). A statement '..UptoSaid' is the law's where the arguments, and the package variables that the reading takes, are together of bulk at most 1048576: NARROWER than '..Said'. Prove '..Said' where nothing that the law and all that it calls make is longer than what came in: it says more and counts as full. Else prove '..UptoSaid'. A law counts once. -/
mutual
def uptoBulk {H : Type} : DataW H → Nat
  | .lit (.string bytes) => bytes.length + 1
  | .lit _ => 1
  | .nil => 1
  | .ptr d => uptoBulk d + 1
  | .slice elems spare => uptoBulkAll elems + uptoBulkAll spare + 1
  | .agg parts => uptoBulkAll parts + 1
  | .iface _ d => uptoBulk d + 1
  | .map entries => uptoBulkEntries entries + 1
  | .held _ => 1
def uptoBulkAll {H : Type} : List (DataW H) → Nat
  | [] => 0
  | d :: r => uptoBulk d + uptoBulkAll r
def uptoBulkEntries {H : Type} : List (Lit × DataW H) → Nat
  | [] => 0
  | x :: r => uptoBulkEntry x + uptoBulkEntries r
def uptoBulkEntry {H : Type} : Lit × DataW H → Nat
  | (.string bytes, d) => bytes.length + uptoBulk d + 1
  | (_, d) => uptoBulk d + 1
 end
def uptoSmall : (H : Type) → List (DataW H) → Bool := fun _ ds => decide (uptoBulkAll ds ≤ 1048576)
def OpenSpec.upto (s : _root_.Go.ChangeSpec) : _root_.Go.OpenSpec := { _root_.Go.OpenSpec.ofChange s with cond := some uptoSmall }

/-- 'tidewalllaw06.GaugeShrinks', WHERE WHAT IT READS IS OF BULK AT MOST 1048576: true; the input reads as it did. -/
def gaugeShrinksUptoRow : OpenClaim := { program := "ytekljelnebadeaagreat", sum := "5a4bde56a7344b83ff42b9c0bcd60975aad01d716b79c51fcb5701c20ad6aec8", func := "tidewall/tidewalllaw06.GaugeShrinks", spec := "gaugeShrinks", inPlace := ["math.sqrt"], unfollowed := true, recurses := true, named := ["math/bits.divideError", "math/bits.overflowError"], plainKeys := false, apart := false, narrowed := true }
def GaugeShrinksUptoSaid : Prop := gaugeShrinksUptoRow.holds Tryz.pinned (OpenSpec.upto gaugeShrinksSpec)

/-- 'tidewalllaw06.GaugeInside', WHERE WHAT IT READS IS OF BULK AT MOST 1048576: true; the input reads as it did. -/
def gaugeInsideUptoRow : OpenClaim := { program := "ytekljelnebadeaagreat", sum := "5a4bde56a7344b83ff42b9c0bcd60975aad01d716b79c51fcb5701c20ad6aec8", func := "tidewall/tidewalllaw06.GaugeInside", spec := "gaugeInside", inPlace := ["math.sqrt"], unfollowed := true, recurses := true, named := ["math/bits.divideError", "math/bits.overflowError"], plainKeys := false, apart := false, narrowed := true }
def GaugeInsideUptoSaid : Prop := gaugeInsideUptoRow.holds Tryz.pinned (OpenSpec.upto gaugeInsideSpec)

/-- 'tidewalllaw06.GaugeShows', WHERE WHAT IT READS IS OF BULK AT MOST 1048576: true; the input reads as it did. -/
def gaugeShowsUptoRow : OpenClaim := { program := "ytekljelnebadeaagreat", sum := "5a4bde56a7344b83ff42b9c0bcd60975aad01d716b79c51fcb5701c20ad6aec8", func := "tidewall/tidewalllaw06.GaugeShows", spec := "gaugeShows", inPlace := ["math.sqrt"], unfollowed := true, recurses := true, named := ["math/bits.divideError", "math/bits.overflowError"], plainKeys := false, apart := false, narrowed := true }
def GaugeShowsUptoSaid : Prop := gaugeShowsUptoRow.holds Tryz.pinned (OpenSpec.upto gaugeShowsSpec)

/-- 'tidewalllaw06.GaugeLefts', WHERE WHAT IT READS IS OF BULK AT MOST 1048576: true; the input reads as it did. -/
def gaugeLeftsUptoRow : OpenClaim := { program := "ytekljelnebadeaagreat", sum := "5a4bde56a7344b83ff42b9c0bcd60975aad01d716b79c51fcb5701c20ad6aec8", func := "tidewall/tidewalllaw06.GaugeLefts", spec := "gaugeLefts", inPlace := ["math.sqrt"], unfollowed := true, recurses := true, named := ["math/bits.divideError", "math/bits.overflowError"], plainKeys := false, apart := false, narrowed := true }
def GaugeLeftsUptoSaid : Prop := gaugeLeftsUptoRow.holds Tryz.pinned (OpenSpec.upto gaugeLeftsSpec)

/-- 'tidewalllaw06.GaugeKnown', WHERE WHAT IT READS IS OF BULK AT MOST 1048576: true; the input reads as it did. -/
def gaugeKnownUptoRow : OpenClaim := { program := "ytekljelnebadeaagreat", sum := "5a4bde56a7344b83ff42b9c0bcd60975aad01d716b79c51fcb5701c20ad6aec8", func := "tidewall/tidewalllaw06.GaugeKnown", spec := "gaugeKnown", inPlace := ["math.sqrt"], unfollowed := true, recurses := true, named := ["math/bits.divideError", "math/bits.overflowError"], plainKeys := false, apart := false, narrowed := true }
def GaugeKnownUptoSaid : Prop := gaugeKnownUptoRow.holds Tryz.pinned (OpenSpec.upto gaugeKnownSpec)

/-- 'tidewalllaw06.GaugeAllows', WHERE WHAT IT READS IS OF BULK AT MOST 1048576: true; the input reads as it did. -/
def gaugeAllowsUptoRow : OpenClaim := { program := "ytekljelnebadeaagreat", sum := "5a4bde56a7344b83ff42b9c0bcd60975aad01d716b79c51fcb5701c20ad6aec8", func := "tidewall/tidewalllaw06.GaugeAllows", spec := "gaugeAllows", inPlace := ["math.sqrt"], unfollowed := true, recurses := true, named := ["math/bits.divideError", "math/bits.overflowError"], plainKeys := false, apart := false, narrowed := true }
def GaugeAllowsUptoSaid : Prop := gaugeAllowsUptoRow.holds Tryz.pinned (OpenSpec.upto gaugeAllowsSpec)

/-- 'tidewalllaw06.GaugeProofs', WHERE WHAT IT READS IS OF BULK AT MOST 1048576: true; the input reads as it did. -/
def gaugeProofsUptoRow : OpenClaim := { program := "ytekljelnebadeaagreat", sum := "5a4bde56a7344b83ff42b9c0bcd60975aad01d716b79c51fcb5701c20ad6aec8", func := "tidewall/tidewalllaw06.GaugeProofs", spec := "gaugeProofs", inPlace := ["math.sqrt"], unfollowed := true, recurses := true, named := ["math/bits.divideError", "math/bits.overflowError"], plainKeys := false, apart := false, narrowed := true }
def GaugeProofsUptoSaid : Prop := gaugeProofsUptoRow.holds Tryz.pinned (OpenSpec.upto gaugeProofsSpec)

/-- 'tidewalllaw06.GaugeTruth', WHERE WHAT IT READS IS OF BULK AT MOST 1048576: true; the input reads as it did. -/
def gaugeTruthUptoRow : OpenClaim := { program := "ytekljelnebadeaagreat", sum := "5a4bde56a7344b83ff42b9c0bcd60975aad01d716b79c51fcb5701c20ad6aec8", func := "tidewall/tidewalllaw06.GaugeTruth", spec := "gaugeTruth", inPlace := ["math.sqrt"], unfollowed := true, recurses := true, named := ["math/bits.divideError", "math/bits.overflowError"], plainKeys := false, apart := false, narrowed := true }
def GaugeTruthUptoSaid : Prop := gaugeTruthUptoRow.holds Tryz.pinned (OpenSpec.upto gaugeTruthSpec)

/-- 'tidewalllaw06.GaugeProved', WHERE WHAT IT READS IS OF BULK AT MOST 1048576: true; the input reads as it did. -/
def gaugeProvedUptoRow : OpenClaim := { program := "ytekljelnebadeaagreat", sum := "5a4bde56a7344b83ff42b9c0bcd60975aad01d716b79c51fcb5701c20ad6aec8", func := "tidewall/tidewalllaw06.GaugeProved", spec := "gaugeProved", inPlace := ["math.sqrt"], unfollowed := true, recurses := true, named := ["math/bits.divideError", "math/bits.overflowError"], plainKeys := false, apart := false, narrowed := true }
def GaugeProvedUptoSaid : Prop := gaugeProvedUptoRow.holds Tryz.pinned (OpenSpec.upto gaugeProvedSpec)

end Rows
end Go.Proofs.YtekljelnebadeaaGreat
