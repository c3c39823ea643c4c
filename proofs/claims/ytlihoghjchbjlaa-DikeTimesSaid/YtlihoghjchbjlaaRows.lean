/-
  No cell of these rows narrows 'for every input' (looked for: loops, veiled, ifaces, maps, wideKeys, modest, calm, conditions, laid).
  DERIVED. THE GIVEN ROWS OF THIS SEAT. 6 by the template 'for every input the law returns true; each argument reads behind the call as it read before'; 0 by the template 'total and deterministic' (their statements: YtlihoghjchbjlaaTotals.lean).
  GIVEN WITH THE SEED: the statements are not yours to turn. If you find one false, say at which input.
  Laid BY PROGRAM, IN A SANDBOX (cutbox-rows.mjs): the forced cells as the released guide's own fill.sh prints them over the translation 8d303575806204ae… (all of the seat's roots in one cut). By AI agents, Wed Nov 11 2026. No macro, syntax, notation, axiom, sorry.
-/
import Derived.Test.YtlihoghjchbjlaaChecked
import GoSem.Claim
import GoSem.ClaimJoined
import GoSem.ClaimMapViews
import Derived.JoinedTies
import Derived.KernelRfl
namespace Go.Proofs.Ytlihoghjchbjlaa
/- THE CELL 'sum', in the pinned program and in every row, IS THE sha256 OF THE DUMP (.gsa) THAT YtlihoghjchbjlaaProg.lean LOADS. Nothing in Lean hashes anything: it is a label: what it is worth is what the hold of that sum in a sandbox is worth. -/
noncomputable def Try.pinned : Pinned := { name := "ytlihoghjchbjlaa", sum := "8d303575806204ae53d3bd037cfead415e0139869d901c47bcee81e060721729", checked := Try.checked }
namespace Rows
def none {H : Type} : Left H := { results := [], args := [] }

/-- 'tidewalllaw09.DikeHolds': WHATEVER THE INPUT: true; the input reads as it did. -/
def dikeHoldsSpec : ChangeSpec := { name := "dikeHolds", fn := fun _ => fun
  | [d1, d2] => { results := [.lit (.bool true)], args := [d1, d2] }
  | _ => none }
def dikeHoldsRow : OpenClaim := { program := "ytlihoghjchbjlaa", sum := "8d303575806204ae53d3bd037cfead415e0139869d901c47bcee81e060721729", func := "tidewall/tidewalllaw09.DikeHolds", spec := "dikeHolds", unfollowed := true, recurses := true, apart := false }
def DikeHoldsSaid : Prop := dikeHoldsRow.holds Try.pinned (OpenSpec.ofChange dikeHoldsSpec)

/-- ITS FALSE NEIGHBOUR: 'it returns false'. Refute it at one input. -/
def dikeHoldsWrong : ChangeSpec := { name := "dikeHolds", fn := fun _ => fun
  | [d1, d2] => { results := [.lit (.bool false)], args := [d1, d2] }
  | _ => none }
def DikeHoldsWrongFalsely : Prop := dikeHoldsRow.holds Try.pinned (OpenSpec.ofChange dikeHoldsWrong)

/-- 'tidewalllaw09.DikeRaises': WHATEVER THE INPUT: true; the input reads as it did. -/
def dikeRaisesSpec : ChangeSpec := { name := "dikeRaises", fn := fun _ => fun
  | [d1, d2, d3, d4] => { results := [.lit (.bool true)], args := [d1, d2, d3, d4] }
  | _ => none }
def dikeRaisesRow : OpenClaim := { program := "ytlihoghjchbjlaa", sum := "8d303575806204ae53d3bd037cfead415e0139869d901c47bcee81e060721729", func := "tidewall/tidewalllaw09.DikeRaises", spec := "dikeRaises", unfollowed := true, recurses := true, apart := false }
def DikeRaisesSaid : Prop := dikeRaisesRow.holds Try.pinned (OpenSpec.ofChange dikeRaisesSpec)

/-- ITS FALSE NEIGHBOUR: 'it returns false'. Refute it at one input. -/
def dikeRaisesWrong : ChangeSpec := { name := "dikeRaises", fn := fun _ => fun
  | [d1, d2, d3, d4] => { results := [.lit (.bool false)], args := [d1, d2, d3, d4] }
  | _ => none }
def DikeRaisesWrongFalsely : Prop := dikeRaisesRow.holds Try.pinned (OpenSpec.ofChange dikeRaisesWrong)

/-- 'tidewalllaw09.DikeFills': WHATEVER THE INPUT: true; the input reads as it did. -/
def dikeFillsSpec : ChangeSpec := { name := "dikeFills", fn := fun _ => fun
  | [d1, d2, d3] => { results := [.lit (.bool true)], args := [d1, d2, d3] }
  | _ => none }
def dikeFillsRow : OpenClaim := { program := "ytlihoghjchbjlaa", sum := "8d303575806204ae53d3bd037cfead415e0139869d901c47bcee81e060721729", func := "tidewall/tidewalllaw09.DikeFills", spec := "dikeFills", unfollowed := true, recurses := true, apart := false }
def DikeFillsSaid : Prop := dikeFillsRow.holds Try.pinned (OpenSpec.ofChange dikeFillsSpec)

/-- ITS FALSE NEIGHBOUR: 'it returns false'. Refute it at one input. -/
def dikeFillsWrong : ChangeSpec := { name := "dikeFills", fn := fun _ => fun
  | [d1, d2, d3] => { results := [.lit (.bool false)], args := [d1, d2, d3] }
  | _ => none }
def DikeFillsWrongFalsely : Prop := dikeFillsRow.holds Try.pinned (OpenSpec.ofChange dikeFillsWrong)

/-- 'tidewalllaw09.DikeCloses': WHATEVER THE INPUT: true; the input reads as it did. -/
def dikeClosesSpec : ChangeSpec := { name := "dikeCloses", fn := fun _ => fun
  | [d1, d2, d3] => { results := [.lit (.bool true)], args := [d1, d2, d3] }
  | _ => none }
def dikeClosesRow : OpenClaim := { program := "ytlihoghjchbjlaa", sum := "8d303575806204ae53d3bd037cfead415e0139869d901c47bcee81e060721729", func := "tidewall/tidewalllaw09.DikeCloses", spec := "dikeCloses", unfollowed := true, recurses := true, apart := false }
def DikeClosesSaid : Prop := dikeClosesRow.holds Try.pinned (OpenSpec.ofChange dikeClosesSpec)

/-- ITS FALSE NEIGHBOUR: 'it returns false'. Refute it at one input. -/
def dikeClosesWrong : ChangeSpec := { name := "dikeCloses", fn := fun _ => fun
  | [d1, d2, d3] => { results := [.lit (.bool false)], args := [d1, d2, d3] }
  | _ => none }
def DikeClosesWrongFalsely : Prop := dikeClosesRow.holds Try.pinned (OpenSpec.ofChange dikeClosesWrong)

/-- 'tidewalllaw09.DikeTruth': WHATEVER THE INPUT: true; the input reads as it did. -/
def dikeTruthSpec : ChangeSpec := { name := "dikeTruth", fn := fun _ => fun
  | [d] => { results := [.lit (.bool true)], args := [d] }
  | _ => none }
def dikeTruthRow : OpenClaim := { program := "ytlihoghjchbjlaa", sum := "8d303575806204ae53d3bd037cfead415e0139869d901c47bcee81e060721729", func := "tidewall/tidewalllaw09.DikeTruth", spec := "dikeTruth", unfollowed := true, recurses := true, apart := false }
def DikeTruthSaid : Prop := dikeTruthRow.holds Try.pinned (OpenSpec.ofChange dikeTruthSpec)

/-- ITS FALSE NEIGHBOUR: 'it returns false'. Refute it at one input. -/
def dikeTruthWrong : ChangeSpec := { name := "dikeTruth", fn := fun _ => fun
  | [d] => { results := [.lit (.bool false)], args := [d] }
  | _ => none }
def DikeTruthWrongFalsely : Prop := dikeTruthRow.holds Try.pinned (OpenSpec.ofChange dikeTruthWrong)

/-- 'tidewalllaw09.DikeTimes': WHATEVER THE INPUT: true; the input reads as it did. -/
def dikeTimesSpec : ChangeSpec := { name := "dikeTimes", fn := fun _ => fun
  | [d1, d2, d3, d4, d5, d6] => { results := [.lit (.bool true)], args := [d1, d2, d3, d4, d5, d6] }
  | _ => none }
def dikeTimesRow : OpenClaim := { program := "ytlihoghjchbjlaa", sum := "8d303575806204ae53d3bd037cfead415e0139869d901c47bcee81e060721729", func := "tidewall/tidewalllaw09.DikeTimes", spec := "dikeTimes", unfollowed := true, recurses := true, apart := false }
def DikeTimesSaid : Prop := dikeTimesRow.holds Try.pinned (OpenSpec.ofChange dikeTimesSpec)

/-- ITS FALSE NEIGHBOUR: 'it returns false'. Refute it at one input. -/
def dikeTimesWrong : ChangeSpec := { name := "dikeTimes", fn := fun _ => fun
  | [d1, d2, d3, d4, d5, d6] => { results := [.lit (.bool false)], args := [d1, d2, d3, d4, d5, d6] }
  | _ => none }
def DikeTimesWrongFalsely : Prop := dikeTimesRow.holds Try.pinned (OpenSpec.ofChange dikeTimesWrong)

/- THE SECOND FORM. 'bulk': how many values and letters a reading holds, each counted each time it is reached (what is shared counts as often as it is met; a slice's spare places count too). A statement '..UptoSaid' is the law's where the arguments, and the package variables that the reading takes, are together of bulk at most 1048576: NARROWER than '..Said'. Prove '..Said' where nothing that the law and all that it calls make is longer than what came in: it says more and counts as full. Else prove '..UptoSaid'. A law counts once. -/
mutual
def uptoBulk {H : Type} : DataW H → Nat
  | .lit (.string bytes) => bytes.length + 1
  | .lit _ => 1
  | .nil => 1
  | .ptr d => uptoBulk d + 1
  | .slice elems spare => uptoBulkAll elems + uptoBulkAll spare + 1
  | .agg parts => uptoBulkAll parts + 1
  | .iface _ d => uptoBulk d + 1
  | .map entries => uptoBulkEntries entries + 1
  | .held _ => 1
def uptoBulkAll {H : Type} : List (DataW H) → Nat
  | [] => 0
  | d :: r => uptoBulk d + uptoBulkAll r
def uptoBulkEntries {H : Type} : List (Lit × DataW H) → Nat
  | [] => 0
  | x :: r => uptoBulkEntry x + uptoBulkEntries r
def uptoBulkEntry {H : Type} : Lit × DataW H → Nat
  | (.string bytes, d) => bytes.length + uptoBulk d + 1
  | (_, d) => uptoBulk d + 1
 end
def uptoSmall : (H : Type) → List (DataW H) → Bool := fun _ ds => decide (uptoBulkAll ds ≤ 1048576)
def OpenSpec.upto (s : _root_.Go.ChangeSpec) : _root_.Go.OpenSpec := { _root_.Go.OpenSpec.ofChange s with cond := some uptoSmall }

/-- 'tidewalllaw09.DikeHolds', WHERE WHAT IT READS IS OF BULK AT MOST 1048576: true; the input reads as it did. -/
def dikeHoldsUptoRow : OpenClaim := { program := "ytlihoghjchbjlaa", sum := "8d303575806204ae53d3bd037cfead415e0139869d901c47bcee81e060721729", func := "tidewall/tidewalllaw09.DikeHolds", spec := "dikeHolds", unfollowed := true, recurses := true, apart := false, narrowed := true }
def DikeHoldsUptoSaid : Prop := dikeHoldsUptoRow.holds Try.pinned (OpenSpec.upto dikeHoldsSpec)

/-- 'tidewalllaw09.DikeRaises', WHERE WHAT IT READS IS OF BULK AT MOST 1048576: true; the input reads as it did. -/
def dikeRaisesUptoRow : OpenClaim := { program := "ytlihoghjchbjlaa", sum := "8d303575806204ae53d3bd037cfead415e0139869d901c47bcee81e060721729", func := "tidewall/tidewalllaw09.DikeRaises", spec := "dikeRaises", unfollowed := true, recurses := true, apart := false, narrowed := true }
def DikeRaisesUptoSaid : Prop := dikeRaisesUptoRow.holds Try.pinned (OpenSpec.upto dikeRaisesSpec)

/-- 'tidewalllaw09.DikeFills', WHERE WHAT IT READS IS OF BULK AT MOST 1048576: true; the input reads as it did. -/
def dikeFillsUptoRow : OpenClaim := { program := "ytlihoghjchbjlaa", sum := "8d303575806204ae53d3bd037cfead415e0139869d901c47bcee81e060721729", func := "tidewall/tidewalllaw09.DikeFills", spec := "dikeFills", unfollowed := true, recurses := true, apart := false, narrowed := true }
def DikeFillsUptoSaid : Prop := dikeFillsUptoRow.holds Try.pinned (OpenSpec.upto dikeFillsSpec)

/-- 'tidewalllaw09.DikeCloses', WHERE WHAT IT READS IS OF BULK AT MOST 1048576: true; the input reads as it did. -/
def dikeClosesUptoRow : OpenClaim := { program := "ytlihoghjchbjlaa", sum := "8d303575806204ae53d3bd037cfead415e0139869d901c47bcee81e060721729", func := "tidewall/tidewalllaw09.DikeCloses", spec := "dikeCloses", unfollowed := true, recurses := true, apart := false, narrowed := true }
def DikeClosesUptoSaid : Prop := dikeClosesUptoRow.holds Try.pinned (OpenSpec.upto dikeClosesSpec)

/-- 'tidewalllaw09.DikeTruth', WHERE WHAT IT READS IS OF BULK AT MOST 1048576: true; the input reads as it did. -/
def dikeTruthUptoRow : OpenClaim := { program := "ytlihoghjchbjlaa", sum := "8d303575806204ae53d3bd037cfead415e0139869d901c47bcee81e060721729", func := "tidewall/tidewalllaw09.DikeTruth", spec := "dikeTruth", unfollowed := true, recurses := true, apart := false, narrowed := true }
def DikeTruthUptoSaid : Prop := dikeTruthUptoRow.holds Try.pinned (OpenSpec.upto dikeTruthSpec)

/-- 'tidewalllaw09.DikeTimes', WHERE WHAT IT READS IS OF BULK AT MOST 1048576: true; the input reads as it did. -/
def dikeTimesUptoRow : OpenClaim := { program := "ytlihoghjchbjlaa", sum := "8d303575806204ae53d3bd037cfead415e0139869d901c47bcee81e060721729", func := "tidewall/tidewalllaw09.DikeTimes", spec := "dikeTimes", unfollowed := true, recurses := true, apart := false, narrowed := true }
def DikeTimesUptoSaid : Prop := dikeTimesUptoRow.holds Try.pinned (OpenSpec.upto dikeTimesSpec)

end Rows
end Go.Proofs.Ytlihoghjchbjlaa
