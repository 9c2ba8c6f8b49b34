/-
  DERIVED. GIVEN WITH THE SEED: THE CARDS: each row of YtgnonglkibhnhaaDoorRows.lean that lists a variable, with what it lists TIED to the program's text (the seventh form; the later family's looks); each row that meets fmt, with fmt's text TOLD by the authors' own Lean function (tested against real Go, not proved from fmt's source: count such statements apart). THE CARD IS WHAT COUNTS. Prove the row's statement (the work); the ties are given (YtgnonglkibhnhaaDoorTie.lean); close each card by the builder's one call (the guide's Derived/Test/ToyasCard.lean, 'card_holds'). Laid BY PROGRAM, IN A SANDBOX (cutbox-door.mjs). By AI agents, Wed Nov 11 2026. No macro, syntax, notation, axiom, sorry.
-/
import Derived.Test.YtgnonglkibhnhaaDoorRows
import GoSem.ClaimSeven
namespace Go.Proofs.YtgnonglkibhnhaaDoor
namespace Rows

/-- THE TIED CARD OF 'umpirelaw11.CaptureReads'. -/
def captureReadsCard : Claim7 := { stood := { row := captureReadsRow, standIns := [], harness := (true, "33b0d3a0549da558437d5c98b1262d9e7f143be7663bd9371ba56253cccf3e63"), looks := true }, kinds := [], alts := [], laidByText := true, laidKinds := [.data], laidTests := true, laidLooks := .later }
def CaptureReadsCardSaid : Prop := Claim7.holds Tryd.pinned (.plain (OpenSpec.ofChange captureReadsSpec)) captureReadsCard

/-- THE TIED CARD OF 'umpirelaw11.CaptureWrites'. -/
def captureWritesCard : Claim7 := { stood := { row := captureWritesRow, standIns := [], harness := (true, "33b0d3a0549da558437d5c98b1262d9e7f143be7663bd9371ba56253cccf3e63"), looks := true }, kinds := [], alts := [], laidByText := true, laidKinds := [.data], laidTests := true, laidLooks := .later }
def CaptureWritesCardSaid : Prop := Claim7.holds Tryd.pinned (.plain (OpenSpec.ofChange captureWritesSpec)) captureWritesCard

/-- THE TIED CARD OF 'umpirelaw11.CaptureWays'. -/
def captureWaysCard : Claim7 := { stood := { row := captureWaysRow, standIns := [], harness := (true, "33b0d3a0549da558437d5c98b1262d9e7f143be7663bd9371ba56253cccf3e63"), looks := true }, kinds := [], alts := [], laidByText := true, laidKinds := [.data], laidTests := true, laidLooks := .later }
def CaptureWaysCardSaid : Prop := Claim7.holds Tryd.pinned (.plain (OpenSpec.ofChange captureWaysSpec)) captureWaysCard

/-- THE TIED CARD OF 'umpirelaw11.CaptureOrders'. -/
def captureOrdersCard : Claim7 := { stood := { row := captureOrdersRow, standIns := [], harness := (true, "33b0d3a0549da558437d5c98b1262d9e7f143be7663bd9371ba56253cccf3e63"), looks := true }, kinds := [], alts := [], laidByText := true, laidKinds := [.data], laidTests := true, laidLooks := .later }
def CaptureOrdersCardSaid : Prop := Claim7.holds Tryd.pinned (.plain (OpenSpec.ofChange captureOrdersSpec)) captureOrdersCard

/-- THE TIED CARD OF 'umpirelaw11.CaptureChunks'. -/
def captureChunksCard : Claim7 := { stood := { row := captureChunksRow, standIns := [], harness := (true, "33b0d3a0549da558437d5c98b1262d9e7f143be7663bd9371ba56253cccf3e63"), looks := true }, kinds := [], alts := [], laidByText := true, laidKinds := [.data], laidTests := true, laidLooks := .later }
def CaptureChunksCardSaid : Prop := Claim7.holds Tryd.pinned (.plain (OpenSpec.ofChange captureChunksSpec)) captureChunksCard

/-- THE TIED CARD OF 'umpirelaw11.CaptureKeeps'. -/
def captureKeepsCard : Claim7 := { stood := { row := captureKeepsRow, standIns := [], harness := (true, "33b0d3a0549da558437d5c98b1262d9e7f143be7663bd9371ba56253cccf3e63"), looks := true }, kinds := [], alts := [], laidByText := true, laidKinds := [.data], laidTests := true, laidLooks := .later }
def CaptureKeepsCardSaid : Prop := Claim7.holds Tryd.pinned (.plain (OpenSpec.ofChange captureKeepsSpec)) captureKeepsCard

/-- THE SECOND FORM's CARD OF 'umpirelaw11.CaptureReads'. -/
def captureReadsUptoCard : Claim7 := { stood := { row := captureReadsUptoRow, standIns := [], harness := (true, "33b0d3a0549da558437d5c98b1262d9e7f143be7663bd9371ba56253cccf3e63"), looks := true }, kinds := [], alts := [], laidByText := true, laidKinds := [.data], laidTests := true, laidLooks := .later }
def CaptureReadsUptoCardSaid : Prop := Claim7.holds Tryd.pinned (.plain (OpenSpec.upto captureReadsSpec)) captureReadsUptoCard

/-- THE SECOND FORM's CARD OF 'umpirelaw11.CaptureWrites'. -/
def captureWritesUptoCard : Claim7 := { stood := { row := captureWritesUptoRow, standIns := [], harness := (true, "33b0d3a0549da558437d5c98b1262d9e7f143be7663bd9371ba56253cccf3e63"), looks := true }, kinds := [], alts := [], laidByText := true, laidKinds := [.data], laidTests := true, laidLooks := .later }
def CaptureWritesUptoCardSaid : Prop := Claim7.holds Tryd.pinned (.plain (OpenSpec.upto captureWritesSpec)) captureWritesUptoCard

/-- THE SECOND FORM's CARD OF 'umpirelaw11.CaptureWays'. -/
def captureWaysUptoCard : Claim7 := { stood := { row := captureWaysUptoRow, standIns := [], harness := (true, "33b0d3a0549da558437d5c98b1262d9e7f143be7663bd9371ba56253cccf3e63"), looks := true }, kinds := [], alts := [], laidByText := true, laidKinds := [.data], laidTests := true, laidLooks := .later }
def CaptureWaysUptoCardSaid : Prop := Claim7.holds Tryd.pinned (.plain (OpenSpec.upto captureWaysSpec)) captureWaysUptoCard

/-- THE SECOND FORM's CARD OF 'umpirelaw11.CaptureOrders'. -/
def captureOrdersUptoCard : Claim7 := { stood := { row := captureOrdersUptoRow, standIns := [], harness := (true, "33b0d3a0549da558437d5c98b1262d9e7f143be7663bd9371ba56253cccf3e63"), looks := true }, kinds := [], alts := [], laidByText := true, laidKinds := [.data], laidTests := true, laidLooks := .later }
def CaptureOrdersUptoCardSaid : Prop := Claim7.holds Tryd.pinned (.plain (OpenSpec.upto captureOrdersSpec)) captureOrdersUptoCard

/-- THE SECOND FORM's CARD OF 'umpirelaw11.CaptureChunks'. -/
def captureChunksUptoCard : Claim7 := { stood := { row := captureChunksUptoRow, standIns := [], harness := (true, "33b0d3a0549da558437d5c98b1262d9e7f143be7663bd9371ba56253cccf3e63"), looks := true }, kinds := [], alts := [], laidByText := true, laidKinds := [.data], laidTests := true, laidLooks := .later }
def CaptureChunksUptoCardSaid : Prop := Claim7.holds Tryd.pinned (.plain (OpenSpec.upto captureChunksSpec)) captureChunksUptoCard

/-- THE SECOND FORM's CARD OF 'umpirelaw11.CaptureKeeps'. -/
def captureKeepsUptoCard : Claim7 := { stood := { row := captureKeepsUptoRow, standIns := [], harness := (true, "33b0d3a0549da558437d5c98b1262d9e7f143be7663bd9371ba56253cccf3e63"), looks := true }, kinds := [], alts := [], laidByText := true, laidKinds := [.data], laidTests := true, laidLooks := .later }
def CaptureKeepsUptoCardSaid : Prop := Claim7.holds Tryd.pinned (.plain (OpenSpec.upto captureKeepsSpec)) captureKeepsUptoCard
end Rows
end Go.Proofs.YtgnonglkibhnhaaDoor
