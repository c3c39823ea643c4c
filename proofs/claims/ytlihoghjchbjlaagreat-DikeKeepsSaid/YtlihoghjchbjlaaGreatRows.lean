/-
  No cell of these rows narrows 'for every input' (looked for: loops, veiled, ifaces, maps, wideKeys, modest, calm, conditions, laid).
  DERIVED. THE GIVEN ROWS OF THIS SEAT. 5 by the template 'for every input the law returns true; each argument reads behind the call as it read before'; 0 by the template 'total and deterministic' (their statements: YtlihoghjchbjlaaGreatTotals.lean).
  GIVEN WITH THE SEED: the statements are not yours to turn. If you find one false, say at which input.
  Laid BY PROGRAM, IN A SANDBOX (cutbox-rows.mjs): the forced cells as the released guide's own fill.sh prints them over the translation a42820b03c512a9e… (all of the seat's roots in one cut). By AI agents, Wed Nov 11 2026. No macro, syntax, notation, axiom, sorry.
-/
import Derived.Test.YtlihoghjchbjlaaGreatChecked
import GoSem.Claim
import GoSem.ClaimJoined
import GoSem.ClaimMapViews
import Derived.JoinedTies
import Derived.KernelRfl
namespace Go.Proofs.YtlihoghjchbjlaaGreat
/- THE CELL 'sum', in the pinned program and in every row, IS THE sha256 OF THE DUMP (.gsa) THAT YtlihoghjchbjlaaGreatProg.lean LOADS. Nothing in Lean hashes anything: it is a label: what it is worth is what the hold of that sum in a sandbox is worth. -/
noncomputable def Tryz.pinned : Pinned := { name := "ytlihoghjchbjlaagreat", sum := "a42820b03c512a9e26bd916fb7e335c4a1a7c758276d5791388bca902a2af7d3", checked := Tryz.checked }
namespace Rows
def none {H : Type} : Left H := { results := [], args := [] }

/-- 'tidewalllaw09.DikeTold': WHATEVER THE INPUT: true; the input reads as it did. -/
def dikeToldSpec : ChangeSpec := { name := "dikeTold", fn := fun _ => fun
  | [d1, d2, d3] => { results := [.lit (.bool true)], args := [d1, d2, d3] }
  | _ => none }
def dikeToldRow : OpenClaim := { program := "ytlihoghjchbjlaagreat", sum := "a42820b03c512a9e26bd916fb7e335c4a1a7c758276d5791388bca902a2af7d3", func := "tidewall/tidewalllaw09.DikeTold", spec := "dikeTold", unfollowed := true, recurses := true, apart := false }
def DikeToldSaid : Prop := dikeToldRow.holds Tryz.pinned (OpenSpec.ofChange dikeToldSpec)

/-- ITS FALSE NEIGHBOUR: 'it returns false'. Refute it at one input. -/
def dikeToldWrong : ChangeSpec := { name := "dikeTold", fn := fun _ => fun
  | [d1, d2, d3] => { results := [.lit (.bool false)], args := [d1, d2, d3] }
  | _ => none }
def DikeToldWrongFalsely : Prop := dikeToldRow.holds Tryz.pinned (OpenSpec.ofChange dikeToldWrong)

/-- 'tidewalllaw09.DikeGates': WHATEVER THE INPUT: true; the input reads as it did. -/
def dikeGatesSpec : ChangeSpec := { name := "dikeGates", fn := fun _ => fun
  | [d1, d2, d3] => { results := [.lit (.bool true)], args := [d1, d2, d3] }
  | _ => none }
def dikeGatesRow : OpenClaim := { program := "ytlihoghjchbjlaagreat", sum := "a42820b03c512a9e26bd916fb7e335c4a1a7c758276d5791388bca902a2af7d3", func := "tidewall/tidewalllaw09.DikeGates", spec := "dikeGates", inPlace := ["maps.clone"], unfollowed := true, recurses := true, apart := false }
def DikeGatesSaid : Prop := dikeGatesRow.holds Tryz.pinned (OpenSpec.ofChange dikeGatesSpec)

/-- ITS FALSE NEIGHBOUR: 'it returns false'. Refute it at one input. -/
def dikeGatesWrong : ChangeSpec := { name := "dikeGates", fn := fun _ => fun
  | [d1, d2, d3] => { results := [.lit (.bool false)], args := [d1, d2, d3] }
  | _ => none }
def DikeGatesWrongFalsely : Prop := dikeGatesRow.holds Tryz.pinned (OpenSpec.ofChange dikeGatesWrong)

/-- 'tidewalltop.TopShut': WHATEVER THE INPUT: true; the input reads as it did. -/
def topShutSpec : ChangeSpec := { name := "topShut", fn := fun _ => fun
  | [d] => { results := [.lit (.bool true)], args := [d] }
  | _ => none }
def topShutRow : OpenClaim := { program := "ytlihoghjchbjlaagreat", sum := "a42820b03c512a9e26bd916fb7e335c4a1a7c758276d5791388bca902a2af7d3", func := "tidewall/tidewalltop.TopShut", spec := "topShut", inPlace := ["math.sqrt"], unfollowed := true, recurses := true, apart := false }
def TopShutSaid : Prop := topShutRow.holds Tryz.pinned (OpenSpec.ofChange topShutSpec)

/-- ITS FALSE NEIGHBOUR: 'it returns false'. Refute it at one input. -/
def topShutWrong : ChangeSpec := { name := "topShut", fn := fun _ => fun
  | [d] => { results := [.lit (.bool false)], args := [d] }
  | _ => none }
def TopShutWrongFalsely : Prop := topShutRow.holds Tryz.pinned (OpenSpec.ofChange topShutWrong)

/-- 'tidewalllaw09.DikeNil': WHATEVER THE INPUT: true; the input reads as it did. -/
def dikeNilSpec : ChangeSpec := { name := "dikeNil", fn := fun _ => fun
  | [d] => { results := [.lit (.bool true)], args := [d] }
  | _ => none }
def dikeNilRow : OpenClaim := { program := "ytlihoghjchbjlaagreat", sum := "a42820b03c512a9e26bd916fb7e335c4a1a7c758276d5791388bca902a2af7d3", func := "tidewall/tidewalllaw09.DikeNil", spec := "dikeNil", inPlace := ["maps.clone"], unfollowed := true, recurses := true, apart := false }
def DikeNilSaid : Prop := dikeNilRow.holds Tryz.pinned (OpenSpec.ofChange dikeNilSpec)

/-- ITS FALSE NEIGHBOUR: 'it returns false'. Refute it at one input. -/
def dikeNilWrong : ChangeSpec := { name := "dikeNil", fn := fun _ => fun
  | [d] => { results := [.lit (.bool false)], args := [d] }
  | _ => none }
def DikeNilWrongFalsely : Prop := dikeNilRow.holds Tryz.pinned (OpenSpec.ofChange dikeNilWrong)

/-- 'tidewalllaw09.DikeKeeps': WHATEVER THE INPUT: true; the input reads as it did. -/
def dikeKeepsSpec : ChangeSpec := { name := "dikeKeeps", fn := fun _ => fun
  | [d1, d2, d3, d4, d5] => { results := [.lit (.bool true)], args := [d1, d2, d3, d4, d5] }
  | _ => none }
def dikeKeepsRow : OpenClaim := { program := "ytlihoghjchbjlaagreat", sum := "a42820b03c512a9e26bd916fb7e335c4a1a7c758276d5791388bca902a2af7d3", func := "tidewall/tidewalllaw09.DikeKeeps", spec := "dikeKeeps", unfollowed := true, recurses := true, apart := false }
def DikeKeepsSaid : Prop := dikeKeepsRow.holds Tryz.pinned (OpenSpec.ofChange dikeKeepsSpec)

/-- ITS FALSE NEIGHBOUR: 'it returns false'. Refute it at one input. -/
def dikeKeepsWrong : ChangeSpec := { name := "dikeKeeps", fn := fun _ => fun
  | [d1, d2, d3, d4, d5] => { results := [.lit (.bool false)], args := [d1, d2, d3, d4, d5] }
  | _ => none }
def DikeKeepsWrongFalsely : Prop := dikeKeepsRow.holds Tryz.pinned (OpenSpec.ofChange dikeKeepsWrong)

/- THE SECOND FORM. 'bulk': how many values and letters a reading holds, each counted each time it is reached (what is shared counts as often as it is met; a slice's spare places count too). A statement '..UptoSaid' is the law's where the arguments, and the package variables that the reading takes, are together of bulk at most 1048576: NARROWER than '..Said'. Prove '..Said' where nothing that the law and all that it calls make is longer than what came in: it says more and counts as full. Else prove '..UptoSaid'. A law counts once. -/
mutual
def uptoBulk {H : Type} : DataW H → Nat
  | .lit (.string bytes) => bytes.length + 1
  | .lit _ => 1
  | .nil => 1
  | .ptr d => uptoBulk d + 1
  | .slice elems spare => uptoBulkAll elems + uptoBulkAll spare + 1
  | .agg parts => uptoBulkAll parts + 1
  | .iface _ d => uptoBulk d + 1
  | .map entries => uptoBulkEntries entries + 1
  | .held _ => 1
def uptoBulkAll {H : Type} : List (DataW H) → Nat
  | [] => 0
  | d :: r => uptoBulk d + uptoBulkAll r
def uptoBulkEntries {H : Type} : List (Lit × DataW H) → Nat
  | [] => 0
  | x :: r => uptoBulkEntry x + uptoBulkEntries r
def uptoBulkEntry {H : Type} : Lit × DataW H → Nat
  | (.string bytes, d) => bytes.length + uptoBulk d + 1
  | (_, d) => uptoBulk d + 1
 end
def uptoSmall : (H : Type) → List (DataW H) → Bool := fun _ ds => decide (uptoBulkAll ds ≤ 1048576)
def OpenSpec.upto (s : _root_.Go.ChangeSpec) : _root_.Go.OpenSpec := { _root_.Go.OpenSpec.ofChange s with cond := some uptoSmall }

/-- 'tidewalllaw09.DikeTold', WHERE WHAT IT READS IS OF BULK AT MOST 1048576: true; the input reads as it did. -/
def dikeToldUptoRow : OpenClaim := { program := "ytlihoghjchbjlaagreat", sum := "a42820b03c512a9e26bd916fb7e335c4a1a7c758276d5791388bca902a2af7d3", func := "tidewall/tidewalllaw09.DikeTold", spec := "dikeTold", unfollowed := true, recurses := true, apart := false, narrowed := true }
def DikeToldUptoSaid : Prop := dikeToldUptoRow.holds Tryz.pinned (OpenSpec.upto dikeToldSpec)

/-- 'tidewalllaw09.DikeGates', WHERE WHAT IT READS IS OF BULK AT MOST 1048576: true; the input reads as it did. -/
def dikeGatesUptoRow : OpenClaim := { program := "ytlihoghjchbjlaagreat", sum := "a42820b03c512a9e26bd916fb7e335c4a1a7c758276d5791388bca902a2af7d3", func := "tidewall/tidewalllaw09.DikeGates", spec := "dikeGates", inPlace := ["maps.clone"], unfollowed := true, recurses := true, apart := false, narrowed := true }
def DikeGatesUptoSaid : Prop := dikeGatesUptoRow.holds Tryz.pinned (OpenSpec.upto dikeGatesSpec)

/-- 'tidewalltop.TopShut', WHERE WHAT IT READS IS OF BULK AT MOST 1048576: true; the input reads as it did. -/
def topShutUptoRow : OpenClaim := { program := "ytlihoghjchbjlaagreat", sum := "a42820b03c512a9e26bd916fb7e335c4a1a7c758276d5791388bca902a2af7d3", func := "tidewall/tidewalltop.TopShut", spec := "topShut", inPlace := ["math.sqrt"], unfollowed := true, recurses := true, apart := false, narrowed := true }
def TopShutUptoSaid : Prop := topShutUptoRow.holds Tryz.pinned (OpenSpec.upto topShutSpec)

/-- 'tidewalllaw09.DikeNil', WHERE WHAT IT READS IS OF BULK AT MOST 1048576: true; the input reads as it did. -/
def dikeNilUptoRow : OpenClaim := { program := "ytlihoghjchbjlaagreat", sum := "a42820b03c512a9e26bd916fb7e335c4a1a7c758276d5791388bca902a2af7d3", func := "tidewall/tidewalllaw09.DikeNil", spec := "dikeNil", inPlace := ["maps.clone"], unfollowed := true, recurses := true, apart := false, narrowed := true }
def DikeNilUptoSaid : Prop := dikeNilUptoRow.holds Tryz.pinned (OpenSpec.upto dikeNilSpec)

/-- 'tidewalllaw09.DikeKeeps', WHERE WHAT IT READS IS OF BULK AT MOST 1048576: true; the input reads as it did. -/
def dikeKeepsUptoRow : OpenClaim := { program := "ytlihoghjchbjlaagreat", sum := "a42820b03c512a9e26bd916fb7e335c4a1a7c758276d5791388bca902a2af7d3", func := "tidewall/tidewalllaw09.DikeKeeps", spec := "dikeKeeps", unfollowed := true, recurses := true, apart := false, narrowed := true }
def DikeKeepsUptoSaid : Prop := dikeKeepsUptoRow.holds Tryz.pinned (OpenSpec.upto dikeKeepsSpec)

end Rows
end Go.Proofs.YtlihoghjchbjlaaGreat
