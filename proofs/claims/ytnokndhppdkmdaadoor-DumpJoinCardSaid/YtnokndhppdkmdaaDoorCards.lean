/-
  DERIVED. GIVEN WITH THE SEED: THE CARDS: each row of YtnokndhppdkmdaaDoorRows.lean that lists a variable, with what it lists TIED to the program's text (the seventh form; the later family's looks); each row that meets fmt, with fmt's text TOLD by the authors' own Lean function (tested against real Go, not proved from fmt's source: count such statements apart). THE CARD IS WHAT COUNTS. Prove the row's statement (the work); the ties are given (YtnokndhppdkmdaaDoorTie.lean); close each card by the builder's one call (the guide's Derived/Test/ToyasCard.lean, 'card_holds'). Laid BY PROGRAM, IN A SANDBOX (cutbox-door.mjs). By AI agents, Wed Nov 11 2026. No macro, syntax, notation, axiom, sorry.
-/
import Derived.Test.YtnokndhppdkmdaaDoorRows
import GoSem.ClaimSeven
namespace Go.Proofs.YtnokndhppdkmdaaDoor
namespace Rows

/-- THE TIED CARD OF 'umpirelaw10.DumpPuts'. -/
def dumpPutsCard : Claim7 := { stood := { row := dumpPutsRow, standIns := [], harness := (true, "eabb72f2c61c108c4c7b3ae3c7fb10e6b5d378a8be3c0adfcb13ff6923aed886"), looks := false }, kinds := [], alts := [], laidByText := true, laidKinds := [.data], laidTests := true, laidLooks := .later }
def DumpPutsCardSaid : Prop := Claim7.holds Tryd.pinned (.plain (OpenSpec.ofChange dumpPutsSpec)) dumpPutsCard

/-- THE TIED CARD OF 'umpirelaw10.DumpReads'. -/
def dumpReadsCard : Claim7 := { stood := { row := dumpReadsRow, standIns := [], harness := (true, "eabb72f2c61c108c4c7b3ae3c7fb10e6b5d378a8be3c0adfcb13ff6923aed886"), looks := false }, kinds := [], alts := [], laidByText := true, laidKinds := [.data], laidTests := true, laidLooks := .later }
def DumpReadsCardSaid : Prop := Claim7.holds Tryd.pinned (.plain (OpenSpec.ofChange dumpReadsSpec)) dumpReadsCard

/-- THE TIED CARD OF 'umpirelaw10.DumpBack'. -/
def dumpBackCard : Claim7 := { stood := { row := dumpBackRow, standIns := [], harness := (true, "eabb72f2c61c108c4c7b3ae3c7fb10e6b5d378a8be3c0adfcb13ff6923aed886"), looks := false }, kinds := [], alts := [], laidByText := true, laidKinds := [.data], laidTests := true, laidLooks := .later }
def DumpBackCardSaid : Prop := Claim7.holds Tryd.pinned (.plain (OpenSpec.ofChange dumpBackSpec)) dumpBackCard

/-- THE TIED CARD OF 'umpirelaw10.DumpCuts'. -/
def dumpCutsCard : Claim7 := { stood := { row := dumpCutsRow, standIns := [], harness := (true, "eabb72f2c61c108c4c7b3ae3c7fb10e6b5d378a8be3c0adfcb13ff6923aed886"), looks := false }, kinds := [], alts := [], laidByText := true, laidKinds := [.data], laidTests := true, laidLooks := .later }
def DumpCutsCardSaid : Prop := Claim7.holds Tryd.pinned (.plain (OpenSpec.ofChange dumpCutsSpec)) dumpCutsCard

/-- THE TIED CARD OF 'umpirelaw10.DumpJoin'. -/
def dumpJoinCard : Claim7 := { stood := { row := dumpJoinRow, standIns := [], harness := (true, "eabb72f2c61c108c4c7b3ae3c7fb10e6b5d378a8be3c0adfcb13ff6923aed886"), looks := false }, kinds := [], alts := [], laidByText := true, laidKinds := [.data], laidTests := true, laidLooks := .later }
def DumpJoinCardSaid : Prop := Claim7.holds Tryd.pinned (.plain (OpenSpec.ofChange dumpJoinSpec)) dumpJoinCard

/-- THE TIED CARD OF 'umpirelaw10.DumpKeeps'. -/
def dumpKeepsCard : Claim7 := { stood := { row := dumpKeepsRow, standIns := [], harness := (true, "eabb72f2c61c108c4c7b3ae3c7fb10e6b5d378a8be3c0adfcb13ff6923aed886"), looks := false }, kinds := [], alts := [], laidByText := true, laidKinds := [.data], laidTests := true, laidLooks := .later }
def DumpKeepsCardSaid : Prop := Claim7.holds Tryd.pinned (.plain (OpenSpec.ofChange dumpKeepsSpec)) dumpKeepsCard

/-- THE SECOND FORM's CARD OF 'umpirelaw10.DumpPuts'. -/
def dumpPutsUptoCard : Claim7 := { stood := { row := dumpPutsUptoRow, standIns := [], harness := (true, "eabb72f2c61c108c4c7b3ae3c7fb10e6b5d378a8be3c0adfcb13ff6923aed886"), looks := false }, kinds := [], alts := [], laidByText := true, laidKinds := [.data], laidTests := true, laidLooks := .later }
def DumpPutsUptoCardSaid : Prop := Claim7.holds Tryd.pinned (.plain (OpenSpec.upto dumpPutsSpec)) dumpPutsUptoCard

/-- THE SECOND FORM's CARD OF 'umpirelaw10.DumpReads'. -/
def dumpReadsUptoCard : Claim7 := { stood := { row := dumpReadsUptoRow, standIns := [], harness := (true, "eabb72f2c61c108c4c7b3ae3c7fb10e6b5d378a8be3c0adfcb13ff6923aed886"), looks := false }, kinds := [], alts := [], laidByText := true, laidKinds := [.data], laidTests := true, laidLooks := .later }
def DumpReadsUptoCardSaid : Prop := Claim7.holds Tryd.pinned (.plain (OpenSpec.upto dumpReadsSpec)) dumpReadsUptoCard

/-- THE SECOND FORM's CARD OF 'umpirelaw10.DumpBack'. -/
def dumpBackUptoCard : Claim7 := { stood := { row := dumpBackUptoRow, standIns := [], harness := (true, "eabb72f2c61c108c4c7b3ae3c7fb10e6b5d378a8be3c0adfcb13ff6923aed886"), looks := false }, kinds := [], alts := [], laidByText := true, laidKinds := [.data], laidTests := true, laidLooks := .later }
def DumpBackUptoCardSaid : Prop := Claim7.holds Tryd.pinned (.plain (OpenSpec.upto dumpBackSpec)) dumpBackUptoCard

/-- THE SECOND FORM's CARD OF 'umpirelaw10.DumpCuts'. -/
def dumpCutsUptoCard : Claim7 := { stood := { row := dumpCutsUptoRow, standIns := [], harness := (true, "eabb72f2c61c108c4c7b3ae3c7fb10e6b5d378a8be3c0adfcb13ff6923aed886"), looks := false }, kinds := [], alts := [], laidByText := true, laidKinds := [.data], laidTests := true, laidLooks := .later }
def DumpCutsUptoCardSaid : Prop := Claim7.holds Tryd.pinned (.plain (OpenSpec.upto dumpCutsSpec)) dumpCutsUptoCard

/-- THE SECOND FORM's CARD OF 'umpirelaw10.DumpJoin'. -/
def dumpJoinUptoCard : Claim7 := { stood := { row := dumpJoinUptoRow, standIns := [], harness := (true, "eabb72f2c61c108c4c7b3ae3c7fb10e6b5d378a8be3c0adfcb13ff6923aed886"), looks := false }, kinds := [], alts := [], laidByText := true, laidKinds := [.data], laidTests := true, laidLooks := .later }
def DumpJoinUptoCardSaid : Prop := Claim7.holds Tryd.pinned (.plain (OpenSpec.upto dumpJoinSpec)) dumpJoinUptoCard

/-- THE SECOND FORM's CARD OF 'umpirelaw10.DumpKeeps'. -/
def dumpKeepsUptoCard : Claim7 := { stood := { row := dumpKeepsUptoRow, standIns := [], harness := (true, "eabb72f2c61c108c4c7b3ae3c7fb10e6b5d378a8be3c0adfcb13ff6923aed886"), looks := false }, kinds := [], alts := [], laidByText := true, laidKinds := [.data], laidTests := true, laidLooks := .later }
def DumpKeepsUptoCardSaid : Prop := Claim7.holds Tryd.pinned (.plain (OpenSpec.upto dumpKeepsSpec)) dumpKeepsUptoCard
end Rows
end Go.Proofs.YtnokndhppdkmdaaDoor
