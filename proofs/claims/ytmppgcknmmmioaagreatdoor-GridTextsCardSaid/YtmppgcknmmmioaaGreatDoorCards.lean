/-
  DERIVED. GIVEN WITH THE SEED: THE CARDS: each row of YtmppgcknmmmioaaGreatDoorRows.lean that lists a variable, with what it lists TIED to the program's text (the seventh form; the later family's looks); each row that meets fmt, with fmt's text TOLD by the authors' own Lean function (tested against real Go, not proved from fmt's source: count such statements apart). THE CARD IS WHAT COUNTS. Prove the row's statement (the work); the ties are given (YtmppgcknmmmioaaGreatDoorTie.lean); close each card by the builder's one call (the guide's Derived/Test/ToyasCard.lean, 'card_holds'). Laid BY PROGRAM, IN A SANDBOX (cutbox-door.mjs). By AI agents, Wed Nov 11 2026. No macro, syntax, notation, axiom, sorry.
-/
import Derived.Test.YtmppgcknmmmioaaGreatDoorRows
import GoSem.ClaimSeven
namespace Go.Proofs.YtmppgcknmmmioaaGreatDoor
namespace Rows

/-- THE TIED CARD OF 'tidewalllaw01.GridNears'. -/
def gridNearsCard : Claim7 := { stood := { row := gridNearsRow, standIns := [], harness := (true, "982f128234d701cae9c98cd68b275084e9de5bd09edbd5216078bf8e5fd7eafb"), looks := true }, kinds := [], alts := [], laidByText := true, laidKinds := [.data, .data, .data, .sentinel, .sentinel, .listed, .data], laidTests := true, laidLooks := .later }
def GridNearsCardSaid : Prop := Claim7.holds Tryz.pinned (.plain (OpenSpec.ofChange gridNearsSpec)) gridNearsCard

/-- THE TIED CARD OF 'tidewalllaw01.GridFloods'. -/
def gridFloodsCard : Claim7 := { stood := { row := gridFloodsRow, standIns := [], harness := (true, "982f128234d701cae9c98cd68b275084e9de5bd09edbd5216078bf8e5fd7eafb"), looks := true }, kinds := [], alts := [], laidByText := true, laidKinds := [.data, .data, .data, .sentinel, .sentinel, .listed, .data], laidTests := true, laidLooks := .later }
def GridFloodsCardSaid : Prop := Claim7.holds Tryz.pinned (.plain (OpenSpec.ofChange gridFloodsSpec)) gridFloodsCard

/-- THE TIED CARD OF 'tidewalllaw01.GridSurveys'. -/
def gridSurveysCard : Claim7 := { stood := { row := gridSurveysRow, standIns := [], harness := (true, "982f128234d701cae9c98cd68b275084e9de5bd09edbd5216078bf8e5fd7eafb"), looks := true }, kinds := [], alts := [], laidByText := true, laidKinds := [.data, .data, .data, .sentinel, .sentinel, .listed, .data], laidTests := true, laidLooks := .later }
def GridSurveysCardSaid : Prop := Claim7.holds Tryz.pinned (.plain (OpenSpec.ofChange gridSurveysSpec)) gridSurveysCard

/-- THE TIED CARD OF 'tidewalllaw01.GridSteps'. -/
def gridStepsCard : Claim7 := { stood := { row := gridStepsRow, standIns := [], harness := (true, "982f128234d701cae9c98cd68b275084e9de5bd09edbd5216078bf8e5fd7eafb"), looks := true }, kinds := [], alts := [], laidByText := true, laidKinds := [.data, .data, .data, .sentinel, .sentinel, .listed, .data], laidTests := true, laidLooks := .later }
def GridStepsCardSaid : Prop := Claim7.holds Tryz.pinned (.plain (OpenSpec.ofChange gridStepsSpec)) gridStepsCard

/-- THE TIED CARD OF 'tidewalllaw01.GridTexts'. -/
def gridTextsCard : Claim7 := { stood := { row := gridTextsRow, standIns := [], harness := (true, "982f128234d701cae9c98cd68b275084e9de5bd09edbd5216078bf8e5fd7eafb"), looks := true }, kinds := [], alts := [], laidByText := true, laidKinds := [.data, .data, .data, .sentinel, .sentinel, .listed, .data], laidTests := true, laidLooks := .later }
def GridTextsCardSaid : Prop := Claim7.holds Tryz.pinned (.plain (OpenSpec.ofChange gridTextsSpec)) gridTextsCard

/-- THE TIED CARD OF 'tidewalllaw01.GridTruth'. -/
def gridTruthCard : Claim7 := { stood := { row := gridTruthRow, standIns := [], harness := (true, "982f128234d701cae9c98cd68b275084e9de5bd09edbd5216078bf8e5fd7eafb"), looks := true }, kinds := [], alts := [], laidByText := true, laidKinds := [.data, .data, .data, .sentinel, .sentinel, .listed, .data], laidTests := true, laidLooks := .later }
def GridTruthCardSaid : Prop := Claim7.holds Tryz.pinned (.plain (OpenSpec.ofChange gridTruthSpec)) gridTruthCard

/-- THE TIED CARD OF 'tidewalllaw01.GridFewer'. -/
def gridFewerCard : Claim7 := { stood := { row := gridFewerRow, standIns := [], harness := (true, "982f128234d701cae9c98cd68b275084e9de5bd09edbd5216078bf8e5fd7eafb"), looks := true }, kinds := [], alts := [], laidByText := true, laidKinds := [.data, .data, .data, .sentinel, .sentinel, .listed, .data], laidTests := true, laidLooks := .later }
def GridFewerCardSaid : Prop := Claim7.holds Tryz.pinned (.plain (OpenSpec.ofChange gridFewerSpec)) gridFewerCard

/-- THE TIED CARD OF 'tidewalllaw01.GridOrder'. -/
def gridOrderCard : Claim7 := { stood := { row := gridOrderRow, standIns := [], harness := (true, "982f128234d701cae9c98cd68b275084e9de5bd09edbd5216078bf8e5fd7eafb"), looks := true }, kinds := [], alts := [], laidByText := true, laidKinds := [.data, .data, .data, .sentinel, .sentinel, .listed, .data], laidTests := true, laidLooks := .later }
def GridOrderCardSaid : Prop := Claim7.holds Tryz.pinned (.plain (OpenSpec.ofChange gridOrderSpec)) gridOrderCard

/-- THE TIED CARD OF 'tidewalllaw01.GridTight'. -/
def gridTightCard : Claim7 := { stood := { row := gridTightRow, standIns := [], harness := (true, "982f128234d701cae9c98cd68b275084e9de5bd09edbd5216078bf8e5fd7eafb"), looks := true }, kinds := [], alts := [], laidByText := true, laidKinds := [.data, .data, .data, .sentinel, .sentinel, .listed, .data], laidTests := true, laidLooks := .later }
def GridTightCardSaid : Prop := Claim7.holds Tryz.pinned (.plain (OpenSpec.ofChange gridTightSpec)) gridTightCard

/-- THE TIED CARD OF 'tidewalllaw01.GridBack'. -/
def gridBackCard : Claim7 := { stood := { row := gridBackRow, standIns := [], harness := (true, "982f128234d701cae9c98cd68b275084e9de5bd09edbd5216078bf8e5fd7eafb"), looks := true }, kinds := [], alts := [], laidByText := true, laidKinds := [.data, .data, .data, .sentinel, .sentinel, .listed, .data], laidTests := true, laidLooks := .later }
def GridBackCardSaid : Prop := Claim7.holds Tryz.pinned (.plain (OpenSpec.ofChange gridBackSpec)) gridBackCard

/-- THE SECOND FORM's CARD OF 'tidewalllaw01.GridNears'. -/
def gridNearsUptoCard : Claim7 := { stood := { row := gridNearsUptoRow, standIns := [], harness := (true, "982f128234d701cae9c98cd68b275084e9de5bd09edbd5216078bf8e5fd7eafb"), looks := true }, kinds := [], alts := [], laidByText := true, laidKinds := [.data, .data, .data, .sentinel, .sentinel, .listed, .data], laidTests := true, laidLooks := .later }
def GridNearsUptoCardSaid : Prop := Claim7.holds Tryz.pinned (.plain (OpenSpec.upto gridNearsSpec)) gridNearsUptoCard

/-- THE SECOND FORM's CARD OF 'tidewalllaw01.GridFloods'. -/
def gridFloodsUptoCard : Claim7 := { stood := { row := gridFloodsUptoRow, standIns := [], harness := (true, "982f128234d701cae9c98cd68b275084e9de5bd09edbd5216078bf8e5fd7eafb"), looks := true }, kinds := [], alts := [], laidByText := true, laidKinds := [.data, .data, .data, .sentinel, .sentinel, .listed, .data], laidTests := true, laidLooks := .later }
def GridFloodsUptoCardSaid : Prop := Claim7.holds Tryz.pinned (.plain (OpenSpec.upto gridFloodsSpec)) gridFloodsUptoCard

/-- THE SECOND FORM's CARD OF 'tidewalllaw01.GridSurveys'. -/
def gridSurveysUptoCard : Claim7 := { stood := { row := gridSurveysUptoRow, standIns := [], harness := (true, "982f128234d701cae9c98cd68b275084e9de5bd09edbd5216078bf8e5fd7eafb"), looks := true }, kinds := [], alts := [], laidByText := true, laidKinds := [.data, .data, .data, .sentinel, .sentinel, .listed, .data], laidTests := true, laidLooks := .later }
def GridSurveysUptoCardSaid : Prop := Claim7.holds Tryz.pinned (.plain (OpenSpec.upto gridSurveysSpec)) gridSurveysUptoCard

/-- THE SECOND FORM's CARD OF 'tidewalllaw01.GridSteps'. -/
def gridStepsUptoCard : Claim7 := { stood := { row := gridStepsUptoRow, standIns := [], harness := (true, "982f128234d701cae9c98cd68b275084e9de5bd09edbd5216078bf8e5fd7eafb"), looks := true }, kinds := [], alts := [], laidByText := true, laidKinds := [.data, .data, .data, .sentinel, .sentinel, .listed, .data], laidTests := true, laidLooks := .later }
def GridStepsUptoCardSaid : Prop := Claim7.holds Tryz.pinned (.plain (OpenSpec.upto gridStepsSpec)) gridStepsUptoCard

/-- THE SECOND FORM's CARD OF 'tidewalllaw01.GridTexts'. -/
def gridTextsUptoCard : Claim7 := { stood := { row := gridTextsUptoRow, standIns := [], harness := (true, "982f128234d701cae9c98cd68b275084e9de5bd09edbd5216078bf8e5fd7eafb"), looks := true }, kinds := [], alts := [], laidByText := true, laidKinds := [.data, .data, .data, .sentinel, .sentinel, .listed, .data], laidTests := true, laidLooks := .later }
def GridTextsUptoCardSaid : Prop := Claim7.holds Tryz.pinned (.plain (OpenSpec.upto gridTextsSpec)) gridTextsUptoCard

/-- THE SECOND FORM's CARD OF 'tidewalllaw01.GridTruth'. -/
def gridTruthUptoCard : Claim7 := { stood := { row := gridTruthUptoRow, standIns := [], harness := (true, "982f128234d701cae9c98cd68b275084e9de5bd09edbd5216078bf8e5fd7eafb"), looks := true }, kinds := [], alts := [], laidByText := true, laidKinds := [.data, .data, .data, .sentinel, .sentinel, .listed, .data], laidTests := true, laidLooks := .later }
def GridTruthUptoCardSaid : Prop := Claim7.holds Tryz.pinned (.plain (OpenSpec.upto gridTruthSpec)) gridTruthUptoCard

/-- THE SECOND FORM's CARD OF 'tidewalllaw01.GridFewer'. -/
def gridFewerUptoCard : Claim7 := { stood := { row := gridFewerUptoRow, standIns := [], harness := (true, "982f128234d701cae9c98cd68b275084e9de5bd09edbd5216078bf8e5fd7eafb"), looks := true }, kinds := [], alts := [], laidByText := true, laidKinds := [.data, .data, .data, .sentinel, .sentinel, .listed, .data], laidTests := true, laidLooks := .later }
def GridFewerUptoCardSaid : Prop := Claim7.holds Tryz.pinned (.plain (OpenSpec.upto gridFewerSpec)) gridFewerUptoCard

/-- THE SECOND FORM's CARD OF 'tidewalllaw01.GridOrder'. -/
def gridOrderUptoCard : Claim7 := { stood := { row := gridOrderUptoRow, standIns := [], harness := (true, "982f128234d701cae9c98cd68b275084e9de5bd09edbd5216078bf8e5fd7eafb"), looks := true }, kinds := [], alts := [], laidByText := true, laidKinds := [.data, .data, .data, .sentinel, .sentinel, .listed, .data], laidTests := true, laidLooks := .later }
def GridOrderUptoCardSaid : Prop := Claim7.holds Tryz.pinned (.plain (OpenSpec.upto gridOrderSpec)) gridOrderUptoCard

/-- THE SECOND FORM's CARD OF 'tidewalllaw01.GridTight'. -/
def gridTightUptoCard : Claim7 := { stood := { row := gridTightUptoRow, standIns := [], harness := (true, "982f128234d701cae9c98cd68b275084e9de5bd09edbd5216078bf8e5fd7eafb"), looks := true }, kinds := [], alts := [], laidByText := true, laidKinds := [.data, .data, .data, .sentinel, .sentinel, .listed, .data], laidTests := true, laidLooks := .later }
def GridTightUptoCardSaid : Prop := Claim7.holds Tryz.pinned (.plain (OpenSpec.upto gridTightSpec)) gridTightUptoCard

/-- THE SECOND FORM's CARD OF 'tidewalllaw01.GridBack'. -/
def gridBackUptoCard : Claim7 := { stood := { row := gridBackUptoRow, standIns := [], harness := (true, "982f128234d701cae9c98cd68b275084e9de5bd09edbd5216078bf8e5fd7eafb"), looks := true }, kinds := [], alts := [], laidByText := true, laidKinds := [.data, .data, .data, .sentinel, .sentinel, .listed, .data], laidTests := true, laidLooks := .later }
def GridBackUptoCardSaid : Prop := Claim7.holds Tryz.pinned (.plain (OpenSpec.upto gridBackSpec)) gridBackUptoCard
end Rows
end Go.Proofs.YtmppgcknmmmioaaGreatDoor
