/-
  DERIVED. GIVEN WITH THE SEED: THE CARDS: each row of YtbklalklebjiaaaGreatDoorRows.lean that lists a variable, with what it lists TIED to the program's text (the seventh form; the later family's looks); each row that meets fmt, with fmt's text TOLD by the authors' own Lean function (tested against real Go, not proved from fmt's source: count such statements apart). THE CARD IS WHAT COUNTS. Prove the row's statement (the work); the ties are given (YtbklalklebjiaaaGreatDoorTie.lean); close each card by the builder's one call (the guide's Derived/Test/ToyasCard.lean, 'card_holds'). Laid BY PROGRAM, IN A SANDBOX (cutbox-door.mjs). By AI agents, Wed Nov 11 2026. No macro, syntax, notation, axiom, sorry.
-/
import Derived.Test.YtbklalklebjiaaaGreatDoorRows
import GoSem.ClaimSeven
namespace Go.Proofs.YtbklalklebjiaaaGreatDoor
namespace Rows

/-- THE TIED CARD OF 'transposallaw16.ClassParts'. -/
def classPartsCard : Claim7 := { stood := { row := classPartsRow, standIns := [], harness := (true, "5c0fa004edf7ebb42e0e64ef44b57bd8305dfdb42cc2a43e47c6b847f652a842"), looks := true }, kinds := [], alts := [], laidByText := true, laidKinds := [.data, .data, .data, .sentinel, .sentinel, .data, .data], laidTests := true, laidLooks := .later }
def ClassPartsCardSaid : Prop := Claim7.holds Tryz.pinned (.plain (OpenSpec.ofChange classPartsSpec)) classPartsCard

/-- THE TIED CARD OF 'transposallaw16.ClassTouches'. -/
def classTouchesCard : Claim7 := { stood := { row := classTouchesRow, standIns := [], harness := (true, "5c0fa004edf7ebb42e0e64ef44b57bd8305dfdb42cc2a43e47c6b847f652a842"), looks := true }, kinds := [], alts := [], laidByText := true, laidKinds := [.data, .data, .data, .sentinel, .sentinel, .data, .data], laidTests := true, laidLooks := .later }
def ClassTouchesCardSaid : Prop := Claim7.holds Tryz.pinned (.plain (OpenSpec.ofChange classTouchesSpec)) classTouchesCard

/-- THE TIED CARD OF 'transposallaw17.ImageOf'. -/
def imageOfCard : Claim7 := { stood := { row := imageOfRow, standIns := [], harness := (true, "5c0fa004edf7ebb42e0e64ef44b57bd8305dfdb42cc2a43e47c6b847f652a842"), looks := true }, kinds := [], alts := [], laidByText := true, laidKinds := [.data, .data, .data, .sentinel, .sentinel, .data, .data], laidTests := true, laidLooks := .later }
def ImageOfCardSaid : Prop := Claim7.holds Tryz.pinned (.plain (OpenSpec.ofChange imageOfSpec)) imageOfCard

/-- THE TIED CARD OF 'transposallaw17.ImageAll'. -/
def imageAllCard : Claim7 := { stood := { row := imageAllRow, standIns := [], harness := (true, "5c0fa004edf7ebb42e0e64ef44b57bd8305dfdb42cc2a43e47c6b847f652a842"), looks := true }, kinds := [], alts := [], laidByText := true, laidKinds := [.data, .data, .data, .sentinel, .sentinel, .data, .data], laidTests := true, laidLooks := .later }
def ImageAllCardSaid : Prop := Claim7.holds Tryz.pinned (.plain (OpenSpec.ofChange imageAllSpec)) imageAllCard

/-- THE TIED CARD OF 'transposallaw17.ImageSums'. -/
def imageSumsCard : Claim7 := { stood := { row := imageSumsRow, standIns := [], harness := (true, "5c0fa004edf7ebb42e0e64ef44b57bd8305dfdb42cc2a43e47c6b847f652a842"), looks := true }, kinds := [], alts := [], laidByText := true, laidKinds := [.data, .data, .data, .sentinel, .sentinel, .data, .data], laidTests := true, laidLooks := .later }
def ImageSumsCardSaid : Prop := Claim7.holds Tryz.pinned (.plain (OpenSpec.ofChange imageSumsSpec)) imageSumsCard

/-- THE TIED CARD OF 'transposallaw17.ImageParts'. -/
def imagePartsCard : Claim7 := { stood := { row := imagePartsRow, standIns := [], harness := (true, "5c0fa004edf7ebb42e0e64ef44b57bd8305dfdb42cc2a43e47c6b847f652a842"), looks := true }, kinds := [], alts := [], laidByText := true, laidKinds := [.data, .data, .data, .sentinel, .sentinel, .data, .data], laidTests := true, laidLooks := .later }
def ImagePartsCardSaid : Prop := Claim7.holds Tryz.pinned (.plain (OpenSpec.ofChange imagePartsSpec)) imagePartsCard

/-- THE TIED CARD OF 'transposallaw17.ImageBack'. -/
def imageBackCard : Claim7 := { stood := { row := imageBackRow, standIns := [], harness := (true, "5c0fa004edf7ebb42e0e64ef44b57bd8305dfdb42cc2a43e47c6b847f652a842"), looks := true }, kinds := [], alts := [], laidByText := true, laidKinds := [.data, .data, .data, .sentinel, .sentinel, .data, .data], laidTests := true, laidLooks := .later }
def ImageBackCardSaid : Prop := Claim7.holds Tryz.pinned (.plain (OpenSpec.ofChange imageBackSpec)) imageBackCard

/-- THE TIED CARD OF 'transposallaw19.TallyKeys'. -/
def tallyKeysCard : Claim7 := { stood := { row := tallyKeysRow, standIns := [], harness := (true, "5c0fa004edf7ebb42e0e64ef44b57bd8305dfdb42cc2a43e47c6b847f652a842"), looks := true }, kinds := [], alts := [], laidByText := true, laidKinds := [.data, .data, .data, .sentinel, .sentinel, .data, .data], laidTests := true, laidLooks := .later }
def TallyKeysCardSaid : Prop := Claim7.holds Tryz.pinned (.plain (OpenSpec.ofChange tallyKeysSpec)) tallyKeysCard

/-- THE TIED CARD OF 'transposallaw19.TallySums'. -/
def tallySumsCard : Claim7 := { stood := { row := tallySumsRow, standIns := [], harness := (true, "5c0fa004edf7ebb42e0e64ef44b57bd8305dfdb42cc2a43e47c6b847f652a842"), looks := true }, kinds := [], alts := [], laidByText := true, laidKinds := [.data, .data, .data, .sentinel, .sentinel, .data, .data], laidTests := true, laidLooks := .later }
def TallySumsCardSaid : Prop := Claim7.holds Tryz.pinned (.plain (OpenSpec.ofChange tallySumsSpec)) tallySumsCard

/-- THE TIED CARD OF 'transposallaw19.TallyJoins'. -/
def tallyJoinsCard : Claim7 := { stood := { row := tallyJoinsRow, standIns := [], harness := (true, "5c0fa004edf7ebb42e0e64ef44b57bd8305dfdb42cc2a43e47c6b847f652a842"), looks := true }, kinds := [], alts := [], laidByText := true, laidKinds := [.data, .data, .data, .sentinel, .sentinel, .data, .data], laidTests := true, laidLooks := .later }
def TallyJoinsCardSaid : Prop := Claim7.holds Tryz.pinned (.plain (OpenSpec.ofChange tallyJoinsSpec)) tallyJoinsCard

/-- THE TIED CARD OF 'transposallaw19.TallyDays'. -/
def tallyDaysCard : Claim7 := { stood := { row := tallyDaysRow, standIns := [], harness := (true, "5c0fa004edf7ebb42e0e64ef44b57bd8305dfdb42cc2a43e47c6b847f652a842"), looks := true }, kinds := [], alts := [], laidByText := true, laidKinds := [.data, .data, .data, .sentinel, .sentinel, .data, .data], laidTests := true, laidLooks := .later }
def TallyDaysCardSaid : Prop := Claim7.holds Tryz.pinned (.plain (OpenSpec.ofChange tallyDaysSpec)) tallyDaysCard

/-- THE TIED CARD OF 'transposallaw20.ReportFigures'. -/
def reportFiguresCard : Claim7 := { stood := { row := reportFiguresRow, standIns := [], harness := (true, "5c0fa004edf7ebb42e0e64ef44b57bd8305dfdb42cc2a43e47c6b847f652a842"), looks := true }, kinds := [], alts := [], laidByText := true, laidKinds := [.data, .data, .data, .sentinel, .sentinel, .data, .data], laidTests := true, laidLooks := .later }
def ReportFiguresCardSaid : Prop := Claim7.holds Tryz.pinned (.plain (OpenSpec.ofChange reportFiguresSpec)) reportFiguresCard

/-- THE SECOND FORM's CARD OF 'transposallaw16.ClassParts'. -/
def classPartsUptoCard : Claim7 := { stood := { row := classPartsUptoRow, standIns := [], harness := (true, "5c0fa004edf7ebb42e0e64ef44b57bd8305dfdb42cc2a43e47c6b847f652a842"), looks := true }, kinds := [], alts := [], laidByText := true, laidKinds := [.data, .data, .data, .sentinel, .sentinel, .data, .data], laidTests := true, laidLooks := .later }
def ClassPartsUptoCardSaid : Prop := Claim7.holds Tryz.pinned (.plain (OpenSpec.upto classPartsSpec)) classPartsUptoCard

/-- THE SECOND FORM's CARD OF 'transposallaw16.ClassTouches'. -/
def classTouchesUptoCard : Claim7 := { stood := { row := classTouchesUptoRow, standIns := [], harness := (true, "5c0fa004edf7ebb42e0e64ef44b57bd8305dfdb42cc2a43e47c6b847f652a842"), looks := true }, kinds := [], alts := [], laidByText := true, laidKinds := [.data, .data, .data, .sentinel, .sentinel, .data, .data], laidTests := true, laidLooks := .later }
def ClassTouchesUptoCardSaid : Prop := Claim7.holds Tryz.pinned (.plain (OpenSpec.upto classTouchesSpec)) classTouchesUptoCard

/-- THE SECOND FORM's CARD OF 'transposallaw17.ImageOf'. -/
def imageOfUptoCard : Claim7 := { stood := { row := imageOfUptoRow, standIns := [], harness := (true, "5c0fa004edf7ebb42e0e64ef44b57bd8305dfdb42cc2a43e47c6b847f652a842"), looks := true }, kinds := [], alts := [], laidByText := true, laidKinds := [.data, .data, .data, .sentinel, .sentinel, .data, .data], laidTests := true, laidLooks := .later }
def ImageOfUptoCardSaid : Prop := Claim7.holds Tryz.pinned (.plain (OpenSpec.upto imageOfSpec)) imageOfUptoCard

/-- THE SECOND FORM's CARD OF 'transposallaw17.ImageAll'. -/
def imageAllUptoCard : Claim7 := { stood := { row := imageAllUptoRow, standIns := [], harness := (true, "5c0fa004edf7ebb42e0e64ef44b57bd8305dfdb42cc2a43e47c6b847f652a842"), looks := true }, kinds := [], alts := [], laidByText := true, laidKinds := [.data, .data, .data, .sentinel, .sentinel, .data, .data], laidTests := true, laidLooks := .later }
def ImageAllUptoCardSaid : Prop := Claim7.holds Tryz.pinned (.plain (OpenSpec.upto imageAllSpec)) imageAllUptoCard

/-- THE SECOND FORM's CARD OF 'transposallaw17.ImageSums'. -/
def imageSumsUptoCard : Claim7 := { stood := { row := imageSumsUptoRow, standIns := [], harness := (true, "5c0fa004edf7ebb42e0e64ef44b57bd8305dfdb42cc2a43e47c6b847f652a842"), looks := true }, kinds := [], alts := [], laidByText := true, laidKinds := [.data, .data, .data, .sentinel, .sentinel, .data, .data], laidTests := true, laidLooks := .later }
def ImageSumsUptoCardSaid : Prop := Claim7.holds Tryz.pinned (.plain (OpenSpec.upto imageSumsSpec)) imageSumsUptoCard

/-- THE SECOND FORM's CARD OF 'transposallaw17.ImageParts'. -/
def imagePartsUptoCard : Claim7 := { stood := { row := imagePartsUptoRow, standIns := [], harness := (true, "5c0fa004edf7ebb42e0e64ef44b57bd8305dfdb42cc2a43e47c6b847f652a842"), looks := true }, kinds := [], alts := [], laidByText := true, laidKinds := [.data, .data, .data, .sentinel, .sentinel, .data, .data], laidTests := true, laidLooks := .later }
def ImagePartsUptoCardSaid : Prop := Claim7.holds Tryz.pinned (.plain (OpenSpec.upto imagePartsSpec)) imagePartsUptoCard

/-- THE SECOND FORM's CARD OF 'transposallaw17.ImageBack'. -/
def imageBackUptoCard : Claim7 := { stood := { row := imageBackUptoRow, standIns := [], harness := (true, "5c0fa004edf7ebb42e0e64ef44b57bd8305dfdb42cc2a43e47c6b847f652a842"), looks := true }, kinds := [], alts := [], laidByText := true, laidKinds := [.data, .data, .data, .sentinel, .sentinel, .data, .data], laidTests := true, laidLooks := .later }
def ImageBackUptoCardSaid : Prop := Claim7.holds Tryz.pinned (.plain (OpenSpec.upto imageBackSpec)) imageBackUptoCard

/-- THE SECOND FORM's CARD OF 'transposallaw19.TallyKeys'. -/
def tallyKeysUptoCard : Claim7 := { stood := { row := tallyKeysUptoRow, standIns := [], harness := (true, "5c0fa004edf7ebb42e0e64ef44b57bd8305dfdb42cc2a43e47c6b847f652a842"), looks := true }, kinds := [], alts := [], laidByText := true, laidKinds := [.data, .data, .data, .sentinel, .sentinel, .data, .data], laidTests := true, laidLooks := .later }
def TallyKeysUptoCardSaid : Prop := Claim7.holds Tryz.pinned (.plain (OpenSpec.upto tallyKeysSpec)) tallyKeysUptoCard

/-- THE SECOND FORM's CARD OF 'transposallaw19.TallySums'. -/
def tallySumsUptoCard : Claim7 := { stood := { row := tallySumsUptoRow, standIns := [], harness := (true, "5c0fa004edf7ebb42e0e64ef44b57bd8305dfdb42cc2a43e47c6b847f652a842"), looks := true }, kinds := [], alts := [], laidByText := true, laidKinds := [.data, .data, .data, .sentinel, .sentinel, .data, .data], laidTests := true, laidLooks := .later }
def TallySumsUptoCardSaid : Prop := Claim7.holds Tryz.pinned (.plain (OpenSpec.upto tallySumsSpec)) tallySumsUptoCard

/-- THE SECOND FORM's CARD OF 'transposallaw19.TallyJoins'. -/
def tallyJoinsUptoCard : Claim7 := { stood := { row := tallyJoinsUptoRow, standIns := [], harness := (true, "5c0fa004edf7ebb42e0e64ef44b57bd8305dfdb42cc2a43e47c6b847f652a842"), looks := true }, kinds := [], alts := [], laidByText := true, laidKinds := [.data, .data, .data, .sentinel, .sentinel, .data, .data], laidTests := true, laidLooks := .later }
def TallyJoinsUptoCardSaid : Prop := Claim7.holds Tryz.pinned (.plain (OpenSpec.upto tallyJoinsSpec)) tallyJoinsUptoCard

/-- THE SECOND FORM's CARD OF 'transposallaw19.TallyDays'. -/
def tallyDaysUptoCard : Claim7 := { stood := { row := tallyDaysUptoRow, standIns := [], harness := (true, "5c0fa004edf7ebb42e0e64ef44b57bd8305dfdb42cc2a43e47c6b847f652a842"), looks := true }, kinds := [], alts := [], laidByText := true, laidKinds := [.data, .data, .data, .sentinel, .sentinel, .data, .data], laidTests := true, laidLooks := .later }
def TallyDaysUptoCardSaid : Prop := Claim7.holds Tryz.pinned (.plain (OpenSpec.upto tallyDaysSpec)) tallyDaysUptoCard

/-- THE SECOND FORM's CARD OF 'transposallaw20.ReportFigures'. -/
def reportFiguresUptoCard : Claim7 := { stood := { row := reportFiguresUptoRow, standIns := [], harness := (true, "5c0fa004edf7ebb42e0e64ef44b57bd8305dfdb42cc2a43e47c6b847f652a842"), looks := true }, kinds := [], alts := [], laidByText := true, laidKinds := [.data, .data, .data, .sentinel, .sentinel, .data, .data], laidTests := true, laidLooks := .later }
def ReportFiguresUptoCardSaid : Prop := Claim7.holds Tryz.pinned (.plain (OpenSpec.upto reportFiguresSpec)) reportFiguresUptoCard
end Rows
end Go.Proofs.YtbklalklebjiaaaGreatDoor
