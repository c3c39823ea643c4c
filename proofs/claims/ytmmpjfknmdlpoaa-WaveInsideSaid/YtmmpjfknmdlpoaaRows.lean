/-
  No cell of these rows narrows 'for every input' (looked for: loops, veiled, ifaces, maps, wideKeys, modest, calm, conditions, laid).
  DERIVED. THE GIVEN ROWS OF THIS SEAT. 8 by the template 'for every input the law returns true; each argument reads behind the call as it read before'; 0 by the template 'total and deterministic' (their statements: YtmmpjfknmdlpoaaTotals.lean).
  GIVEN WITH THE SEED: the statements are not yours to turn. If you find one false, say at which input.
  Laid BY PROGRAM, IN A SANDBOX (cutbox-rows.mjs): the forced cells as the released guide's own fill.sh prints them over the translation 7a8936c69eccbcd6… (all of the seat's roots in one cut). By AI agents, Wed Nov 11 2026. No macro, syntax, notation, axiom, sorry.
-/
import Derived.Test.YtmmpjfknmdlpoaaChecked
import GoSem.Claim
import GoSem.ClaimJoined
import GoSem.ClaimMapViews
import Derived.JoinedTies
import Derived.KernelRfl
namespace Go.Proofs.Ytmmpjfknmdlpoaa
/- THE CELL 'sum', in the pinned program and in every row, IS THE sha256 OF THE DUMP (.gsa) THAT YtmmpjfknmdlpoaaProg.lean LOADS. Nothing in Lean hashes anything: it is a label: what it is worth is what the hold of that sum in a sandbox is worth. -/
noncomputable def Try.pinned : Pinned := { name := "ytmmpjfknmdlpoaa", sum := "7a8936c69eccbcd6ce03732df4428228455face71ea90a35471a34660b1f78d9", checked := Try.checked }
namespace Rows
def none {H : Type} : Left H := { results := [], args := [] }

/-- 'tidewalllaw05.WaveStarts': WHATEVER THE INPUT: true; the input reads as it did. -/
def waveStartsSpec : ChangeSpec := { name := "waveStarts", fn := fun _ => fun
  | [d1, d2, d3] => { results := [.lit (.bool true)], args := [d1, d2, d3] }
  | _ => none }
def waveStartsRow : OpenClaim := { program := "ytmmpjfknmdlpoaa", sum := "7a8936c69eccbcd6ce03732df4428228455face71ea90a35471a34660b1f78d9", func := "tidewall/tidewalllaw05.WaveStarts", spec := "waveStarts", inPlace := ["math.sqrt"], unfollowed := true, recurses := true, apart := false }
def WaveStartsSaid : Prop := waveStartsRow.holds Try.pinned (OpenSpec.ofChange waveStartsSpec)

/-- ITS FALSE NEIGHBOUR: 'it returns false'. Refute it at one input. -/
def waveStartsWrong : ChangeSpec := { name := "waveStarts", fn := fun _ => fun
  | [d1, d2, d3] => { results := [.lit (.bool false)], args := [d1, d2, d3] }
  | _ => none }
def WaveStartsWrongFalsely : Prop := waveStartsRow.holds Try.pinned (OpenSpec.ofChange waveStartsWrong)

/-- 'tidewalllaw05.WaveSources': WHATEVER THE INPUT: true; the input reads as it did. -/
def waveSourcesSpec : ChangeSpec := { name := "waveSources", fn := fun _ => fun
  | [d1, d2, d3, d4] => { results := [.lit (.bool true)], args := [d1, d2, d3, d4] }
  | _ => none }
def waveSourcesRow : OpenClaim := { program := "ytmmpjfknmdlpoaa", sum := "7a8936c69eccbcd6ce03732df4428228455face71ea90a35471a34660b1f78d9", func := "tidewall/tidewalllaw05.WaveSources", spec := "waveSources", inPlace := ["math.sqrt"], unfollowed := true, recurses := true, apart := false }
def WaveSourcesSaid : Prop := waveSourcesRow.holds Try.pinned (OpenSpec.ofChange waveSourcesSpec)

/-- ITS FALSE NEIGHBOUR: 'it returns false'. Refute it at one input. -/
def waveSourcesWrong : ChangeSpec := { name := "waveSources", fn := fun _ => fun
  | [d1, d2, d3, d4] => { results := [.lit (.bool false)], args := [d1, d2, d3, d4] }
  | _ => none }
def WaveSourcesWrongFalsely : Prop := waveSourcesRow.holds Try.pinned (OpenSpec.ofChange waveSourcesWrong)

/-- 'tidewalllaw05.WaveDry': WHATEVER THE INPUT: true; the input reads as it did. -/
def waveDrySpec : ChangeSpec := { name := "waveDry", fn := fun _ => fun
  | [d1, d2, d3] => { results := [.lit (.bool true)], args := [d1, d2, d3] }
  | _ => none }
def waveDryRow : OpenClaim := { program := "ytmmpjfknmdlpoaa", sum := "7a8936c69eccbcd6ce03732df4428228455face71ea90a35471a34660b1f78d9", func := "tidewall/tidewalllaw05.WaveDry", spec := "waveDry", inPlace := ["math.sqrt"], unfollowed := true, recurses := true, apart := false }
def WaveDrySaid : Prop := waveDryRow.holds Try.pinned (OpenSpec.ofChange waveDrySpec)

/-- ITS FALSE NEIGHBOUR: 'it returns false'. Refute it at one input. -/
def waveDryWrong : ChangeSpec := { name := "waveDry", fn := fun _ => fun
  | [d1, d2, d3] => { results := [.lit (.bool false)], args := [d1, d2, d3] }
  | _ => none }
def WaveDryWrongFalsely : Prop := waveDryRow.holds Try.pinned (OpenSpec.ofChange waveDryWrong)

/-- 'tidewalllaw05.WaveAny': WHATEVER THE INPUT: true; the input reads as it did. -/
def waveAnySpec : ChangeSpec := { name := "waveAny", fn := fun _ => fun
  | [d1, d2, d3] => { results := [.lit (.bool true)], args := [d1, d2, d3] }
  | _ => none }
def waveAnyRow : OpenClaim := { program := "ytmmpjfknmdlpoaa", sum := "7a8936c69eccbcd6ce03732df4428228455face71ea90a35471a34660b1f78d9", func := "tidewall/tidewalllaw05.WaveAny", spec := "waveAny", inPlace := ["math.sqrt"], unfollowed := true, recurses := true, apart := false }
def WaveAnySaid : Prop := waveAnyRow.holds Try.pinned (OpenSpec.ofChange waveAnySpec)

/-- ITS FALSE NEIGHBOUR: 'it returns false'. Refute it at one input. -/
def waveAnyWrong : ChangeSpec := { name := "waveAny", fn := fun _ => fun
  | [d1, d2, d3] => { results := [.lit (.bool false)], args := [d1, d2, d3] }
  | _ => none }
def WaveAnyWrongFalsely : Prop := waveAnyRow.holds Try.pinned (OpenSpec.ofChange waveAnyWrong)

/-- 'tidewalllaw05.WaveSpreads': WHATEVER THE INPUT: true; the input reads as it did. -/
def waveSpreadsSpec : ChangeSpec := { name := "waveSpreads", fn := fun _ => fun
  | [d1, d2, d3, d4] => { results := [.lit (.bool true)], args := [d1, d2, d3, d4] }
  | _ => none }
def waveSpreadsRow : OpenClaim := { program := "ytmmpjfknmdlpoaa", sum := "7a8936c69eccbcd6ce03732df4428228455face71ea90a35471a34660b1f78d9", func := "tidewall/tidewalllaw05.WaveSpreads", spec := "waveSpreads", inPlace := ["math.sqrt"], unfollowed := true, recurses := true, apart := false }
def WaveSpreadsSaid : Prop := waveSpreadsRow.holds Try.pinned (OpenSpec.ofChange waveSpreadsSpec)

/-- ITS FALSE NEIGHBOUR: 'it returns false'. Refute it at one input. -/
def waveSpreadsWrong : ChangeSpec := { name := "waveSpreads", fn := fun _ => fun
  | [d1, d2, d3, d4] => { results := [.lit (.bool false)], args := [d1, d2, d3, d4] }
  | _ => none }
def WaveSpreadsWrongFalsely : Prop := waveSpreadsRow.holds Try.pinned (OpenSpec.ofChange waveSpreadsWrong)

/-- 'tidewalllaw05.WaveInside': WHATEVER THE INPUT: true; the input reads as it did. -/
def waveInsideSpec : ChangeSpec := { name := "waveInside", fn := fun _ => fun
  | [d1, d2, d3, d4] => { results := [.lit (.bool true)], args := [d1, d2, d3, d4] }
  | _ => none }
def waveInsideRow : OpenClaim := { program := "ytmmpjfknmdlpoaa", sum := "7a8936c69eccbcd6ce03732df4428228455face71ea90a35471a34660b1f78d9", func := "tidewall/tidewalllaw05.WaveInside", spec := "waveInside", inPlace := ["math.sqrt"], unfollowed := true, recurses := true, apart := false }
def WaveInsideSaid : Prop := waveInsideRow.holds Try.pinned (OpenSpec.ofChange waveInsideSpec)

/-- ITS FALSE NEIGHBOUR: 'it returns false'. Refute it at one input. -/
def waveInsideWrong : ChangeSpec := { name := "waveInside", fn := fun _ => fun
  | [d1, d2, d3, d4] => { results := [.lit (.bool false)], args := [d1, d2, d3, d4] }
  | _ => none }
def WaveInsideWrongFalsely : Prop := waveInsideRow.holds Try.pinned (OpenSpec.ofChange waveInsideWrong)

/-- 'tidewalllaw05.WaveFirst': WHATEVER THE INPUT: true; the input reads as it did. -/
def waveFirstSpec : ChangeSpec := { name := "waveFirst", fn := fun _ => fun
  | [d1, d2] => { results := [.lit (.bool true)], args := [d1, d2] }
  | _ => none }
def waveFirstRow : OpenClaim := { program := "ytmmpjfknmdlpoaa", sum := "7a8936c69eccbcd6ce03732df4428228455face71ea90a35471a34660b1f78d9", func := "tidewall/tidewalllaw05.WaveFirst", spec := "waveFirst", inPlace := ["math.sqrt"], unfollowed := true, recurses := true, apart := false }
def WaveFirstSaid : Prop := waveFirstRow.holds Try.pinned (OpenSpec.ofChange waveFirstSpec)

/-- ITS FALSE NEIGHBOUR: 'it returns false'. Refute it at one input. -/
def waveFirstWrong : ChangeSpec := { name := "waveFirst", fn := fun _ => fun
  | [d1, d2] => { results := [.lit (.bool false)], args := [d1, d2] }
  | _ => none }
def WaveFirstWrongFalsely : Prop := waveFirstRow.holds Try.pinned (OpenSpec.ofChange waveFirstWrong)

/-- 'tidewalllaw05.WaveStrength': WHATEVER THE INPUT: true; the input reads as it did. -/
def waveStrengthSpec : ChangeSpec := { name := "waveStrength", fn := fun _ => fun
  | [d1, d2, d3] => { results := [.lit (.bool true)], args := [d1, d2, d3] }
  | _ => none }
def waveStrengthRow : OpenClaim := { program := "ytmmpjfknmdlpoaa", sum := "7a8936c69eccbcd6ce03732df4428228455face71ea90a35471a34660b1f78d9", func := "tidewall/tidewalllaw05.WaveStrength", spec := "waveStrength", inPlace := ["math.sqrt"], unfollowed := true, recurses := true, apart := false }
def WaveStrengthSaid : Prop := waveStrengthRow.holds Try.pinned (OpenSpec.ofChange waveStrengthSpec)

/-- ITS FALSE NEIGHBOUR: 'it returns false'. Refute it at one input. -/
def waveStrengthWrong : ChangeSpec := { name := "waveStrength", fn := fun _ => fun
  | [d1, d2, d3] => { results := [.lit (.bool false)], args := [d1, d2, d3] }
  | _ => none }
def WaveStrengthWrongFalsely : Prop := waveStrengthRow.holds Try.pinned (OpenSpec.ofChange waveStrengthWrong)

/- THE SECOND FORM. 'bulk': how many values and letters a reading holds, each counted each time it is reached (what is shared counts as often as it is met; a slice's spare places count too). A statement '..UptoSaid' is the law's where the arguments, and the package variables that the reading takes, are together of bulk at most 1048576: NARROWER than '..Said'. Prove '..Said' where nothing that the law and all that it calls make is longer than what came in: it says more and counts as full. Else prove '..UptoSaid'. A law counts once. -/
mutual
def uptoBulk {H : Type} : DataW H → Nat
  | .lit (.string bytes) => bytes.length + 1
  | .lit _ => 1
  | .nil => 1
  | .ptr d => uptoBulk d + 1
  | .slice elems spare => uptoBulkAll elems + uptoBulkAll spare + 1
  | .agg parts => uptoBulkAll parts + 1
  | .iface _ d => uptoBulk d + 1
  | .map entries => uptoBulkEntries entries + 1
  | .held _ => 1
def uptoBulkAll {H : Type} : List (DataW H) → Nat
  | [] => 0
  | d :: r => uptoBulk d + uptoBulkAll r
def uptoBulkEntries {H : Type} : List (Lit × DataW H) → Nat
  | [] => 0
  | x :: r => uptoBulkEntry x + uptoBulkEntries r
def uptoBulkEntry {H : Type} : Lit × DataW H → Nat
  | (.string bytes, d) => bytes.length + uptoBulk d + 1
  | (_, d) => uptoBulk d + 1
 end
def uptoSmall : (H : Type) → List (DataW H) → Bool := fun _ ds => decide (uptoBulkAll ds ≤ 1048576)
def OpenSpec.upto (s : _root_.Go.ChangeSpec) : _root_.Go.OpenSpec := { _root_.Go.OpenSpec.ofChange s with cond := some uptoSmall }

/-- 'tidewalllaw05.WaveStarts', WHERE WHAT IT READS IS OF BULK AT MOST 1048576: true; the input reads as it did. -/
def waveStartsUptoRow : OpenClaim := { program := "ytmmpjfknmdlpoaa", sum := "7a8936c69eccbcd6ce03732df4428228455face71ea90a35471a34660b1f78d9", func := "tidewall/tidewalllaw05.WaveStarts", spec := "waveStarts", inPlace := ["math.sqrt"], unfollowed := true, recurses := true, apart := false, narrowed := true }
def WaveStartsUptoSaid : Prop := waveStartsUptoRow.holds Try.pinned (OpenSpec.upto waveStartsSpec)

/-- 'tidewalllaw05.WaveSources', WHERE WHAT IT READS IS OF BULK AT MOST 1048576: true; the input reads as it did. -/
def waveSourcesUptoRow : OpenClaim := { program := "ytmmpjfknmdlpoaa", sum := "7a8936c69eccbcd6ce03732df4428228455face71ea90a35471a34660b1f78d9", func := "tidewall/tidewalllaw05.WaveSources", spec := "waveSources", inPlace := ["math.sqrt"], unfollowed := true, recurses := true, apart := false, narrowed := true }
def WaveSourcesUptoSaid : Prop := waveSourcesUptoRow.holds Try.pinned (OpenSpec.upto waveSourcesSpec)

/-- 'tidewalllaw05.WaveDry', WHERE WHAT IT READS IS OF BULK AT MOST 1048576: true; the input reads as it did. -/
def waveDryUptoRow : OpenClaim := { program := "ytmmpjfknmdlpoaa", sum := "7a8936c69eccbcd6ce03732df4428228455face71ea90a35471a34660b1f78d9", func := "tidewall/tidewalllaw05.WaveDry", spec := "waveDry", inPlace := ["math.sqrt"], unfollowed := true, recurses := true, apart := false, narrowed := true }
def WaveDryUptoSaid : Prop := waveDryUptoRow.holds Try.pinned (OpenSpec.upto waveDrySpec)

/-- 'tidewalllaw05.WaveAny', WHERE WHAT IT READS IS OF BULK AT MOST 1048576: true; the input reads as it did. -/
def waveAnyUptoRow : OpenClaim := { program := "ytmmpjfknmdlpoaa", sum := "7a8936c69eccbcd6ce03732df4428228455face71ea90a35471a34660b1f78d9", func := "tidewall/tidewalllaw05.WaveAny", spec := "waveAny", inPlace := ["math.sqrt"], unfollowed := true, recurses := true, apart := false, narrowed := true }
def WaveAnyUptoSaid : Prop := waveAnyUptoRow.holds Try.pinned (OpenSpec.upto waveAnySpec)

/-- 'tidewalllaw05.WaveSpreads', WHERE WHAT IT READS IS OF BULK AT MOST 1048576: true; the input reads as it did. -/
def waveSpreadsUptoRow : OpenClaim := { program := "ytmmpjfknmdlpoaa", sum := "7a8936c69eccbcd6ce03732df4428228455face71ea90a35471a34660b1f78d9", func := "tidewall/tidewalllaw05.WaveSpreads", spec := "waveSpreads", inPlace := ["math.sqrt"], unfollowed := true, recurses := true, apart := false, narrowed := true }
def WaveSpreadsUptoSaid : Prop := waveSpreadsUptoRow.holds Try.pinned (OpenSpec.upto waveSpreadsSpec)

/-- 'tidewalllaw05.WaveInside', WHERE WHAT IT READS IS OF BULK AT MOST 1048576: true; the input reads as it did. -/
def waveInsideUptoRow : OpenClaim := { program := "ytmmpjfknmdlpoaa", sum := "7a8936c69eccbcd6ce03732df4428228455face71ea90a35471a34660b1f78d9", func := "tidewall/tidewalllaw05.WaveInside", spec := "waveInside", inPlace := ["math.sqrt"], unfollowed := true, recurses := true, apart := false, narrowed := true }
def WaveInsideUptoSaid : Prop := waveInsideUptoRow.holds Try.pinned (OpenSpec.upto waveInsideSpec)

/-- 'tidewalllaw05.WaveFirst', WHERE WHAT IT READS IS OF BULK AT MOST 1048576: true; the input reads as it did. -/
def waveFirstUptoRow : OpenClaim := { program := "ytmmpjfknmdlpoaa", sum := "7a8936c69eccbcd6ce03732df4428228455face71ea90a35471a34660b1f78d9", func := "tidewall/tidewalllaw05.WaveFirst", spec := "waveFirst", inPlace := ["math.sqrt"], unfollowed := true, recurses := true, apart := false, narrowed := true }
def WaveFirstUptoSaid : Prop := waveFirstUptoRow.holds Try.pinned (OpenSpec.upto waveFirstSpec)

/-- 'tidewalllaw05.WaveStrength', WHERE WHAT IT READS IS OF BULK AT MOST 1048576: true; the input reads as it did. -/
def waveStrengthUptoRow : OpenClaim := { program := "ytmmpjfknmdlpoaa", sum := "7a8936c69eccbcd6ce03732df4428228455face71ea90a35471a34660b1f78d9", func := "tidewall/tidewalllaw05.WaveStrength", spec := "waveStrength", inPlace := ["math.sqrt"], unfollowed := true, recurses := true, apart := false, narrowed := true }
def WaveStrengthUptoSaid : Prop := waveStrengthUptoRow.holds Try.pinned (OpenSpec.upto waveStrengthSpec)

end Rows
end Go.Proofs.Ytmmpjfknmdlpoaa
