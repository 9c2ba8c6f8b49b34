/-
  NARROWER THAN 'FOR EVERY INPUT', by the rows' own cells (each row's printed sentence says how): CaptureReads: laid · CaptureWrites: laid · CaptureWays: laid · CaptureOrders: laid · CaptureChunks: laid · CaptureKeeps: laid.
  DERIVED. THE GIVEN ROWS OF THIS SEAT. 6 by the template 'for every input the law returns true; each argument reads behind the call as it read before'; 0 by the template 'total and deterministic' (their statements: YtgnonglkibhnhaaDoorTotals.lean).
  GIVEN WITH THE SEED: the statements are not yours to turn. If you find one false, say at which input.
  Laid BY PROGRAM, IN A SANDBOX (cutbox-rows.mjs): the forced cells as the released guide's own fill.sh prints them over the translation d8987fd57672927a… (all of the seat's roots in one cut). By AI agents, Wed Nov 11 2026. No macro, syntax, notation, axiom, sorry.
-/
import Derived.Test.YtgnonglkibhnhaaDoorChecked
import GoSem.Claim
import GoSem.ClaimJoined
import GoSem.ClaimMapViews
import Derived.JoinedTies
import Derived.KernelRfl
namespace Go.Proofs.YtgnonglkibhnhaaDoor
/- THE CELL 'sum', in the pinned program and in every row, IS THE sha256 OF THE DUMP (.gsa) THAT YtgnonglkibhnhaaDoorProg.lean LOADS. Nothing in Lean hashes anything: it is a label: what it is worth is what the hold of that sum in a sandbox is worth. -/
noncomputable def Tryd.pinned : Pinned := { name := "ytgnonglkibhnhaadoor", sum := "d8987fd57672927a75bdfc06eb8c1fb17df33af59d943e57109143c621a5f684", checked := Tryd.checked }
namespace Rows
def none {H : Type} : Left H := { results := [], args := [] }

/- WHAT THE LISTED PACKAGE-LEVEL VARIABLES READ AS WHEN THE CALL BEGINS. Each datum BY PROGRAM (the guide's laid-datum.mjs) off the statement by which the dump's own 'gosem.cut.vars' lays the variable. In a bare row this is a premise. The card (YtgnonglkibhnhaaDoorCards.lean) ties it to the program's text. -/
def laid_umpire_dump_forms {H : Type} : DataW H := .agg [.agg [.lit (.bool false), .lit (.int .i64 0)], .agg [.lit (.bool true), .lit (.int .i64 0)], .agg [.lit (.bool true), .lit (.int .i64 0)], .agg [.lit (.bool false), .lit (.int .i64 0)], .agg [.lit (.bool false), .lit (.int .i64 0)], .agg [.lit (.bool false), .lit (.int .i64 4)], .agg [.lit (.bool false), .lit (.int .i64 1)], .agg [.lit (.bool false), .lit (.int .i64 4)]]

/-- 'umpirelaw11.CaptureReads': WHATEVER THE INPUT: true; the input reads as it did. -/
def captureReadsSpec : ChangeSpec := { name := "captureReads", fn := fun _ => fun
  | [d1, d2, d3] => { results := [.lit (.bool true)], args := [d1, d2, d3] }
  | _ => none }
def captureReadsRow : OpenClaim := { program := "ytgnonglkibhnhaadoor", sum := "d8987fd57672927a75bdfc06eb8c1fb17df33af59d943e57109143c621a5f684", func := "umpire/umpirelaw11.CaptureReads", spec := "captureReads", unfollowed := true, recurses := true, named := ["umpire/dump.forms"], apart := false, laid := [("umpire/dump.forms", laid_umpire_dump_forms)] }
def CaptureReadsSaid : Prop := captureReadsRow.holds Tryd.pinned (OpenSpec.ofChange captureReadsSpec)

/-- ITS FALSE NEIGHBOUR: 'it returns false'. Refute it at one input. -/
def captureReadsWrong : ChangeSpec := { name := "captureReads", fn := fun _ => fun
  | [d1, d2, d3] => { results := [.lit (.bool false)], args := [d1, d2, d3] }
  | _ => none }
def CaptureReadsWrongFalsely : Prop := captureReadsRow.holds Tryd.pinned (OpenSpec.ofChange captureReadsWrong)

/-- 'umpirelaw11.CaptureWrites': WHATEVER THE INPUT: true; the input reads as it did. -/
def captureWritesSpec : ChangeSpec := { name := "captureWrites", fn := fun _ => fun
  | [d1, d2, d3] => { results := [.lit (.bool true)], args := [d1, d2, d3] }
  | _ => none }
def captureWritesRow : OpenClaim := { program := "ytgnonglkibhnhaadoor", sum := "d8987fd57672927a75bdfc06eb8c1fb17df33af59d943e57109143c621a5f684", func := "umpire/umpirelaw11.CaptureWrites", spec := "captureWrites", unfollowed := true, recurses := true, named := ["umpire/dump.forms"], apart := false, laid := [("umpire/dump.forms", laid_umpire_dump_forms)] }
def CaptureWritesSaid : Prop := captureWritesRow.holds Tryd.pinned (OpenSpec.ofChange captureWritesSpec)

/-- ITS FALSE NEIGHBOUR: 'it returns false'. Refute it at one input. -/
def captureWritesWrong : ChangeSpec := { name := "captureWrites", fn := fun _ => fun
  | [d1, d2, d3] => { results := [.lit (.bool false)], args := [d1, d2, d3] }
  | _ => none }
def CaptureWritesWrongFalsely : Prop := captureWritesRow.holds Tryd.pinned (OpenSpec.ofChange captureWritesWrong)

/-- 'umpirelaw11.CaptureWays': WHATEVER THE INPUT: true; the input reads as it did. -/
def captureWaysSpec : ChangeSpec := { name := "captureWays", fn := fun _ => fun
  | [d1, d2] => { results := [.lit (.bool true)], args := [d1, d2] }
  | _ => none }
def captureWaysRow : OpenClaim := { program := "ytgnonglkibhnhaadoor", sum := "d8987fd57672927a75bdfc06eb8c1fb17df33af59d943e57109143c621a5f684", func := "umpire/umpirelaw11.CaptureWays", spec := "captureWays", unfollowed := true, recurses := true, named := ["umpire/dump.forms"], apart := false, laid := [("umpire/dump.forms", laid_umpire_dump_forms)] }
def CaptureWaysSaid : Prop := captureWaysRow.holds Tryd.pinned (OpenSpec.ofChange captureWaysSpec)

/-- ITS FALSE NEIGHBOUR: 'it returns false'. Refute it at one input. -/
def captureWaysWrong : ChangeSpec := { name := "captureWays", fn := fun _ => fun
  | [d1, d2] => { results := [.lit (.bool false)], args := [d1, d2] }
  | _ => none }
def CaptureWaysWrongFalsely : Prop := captureWaysRow.holds Tryd.pinned (OpenSpec.ofChange captureWaysWrong)

/-- 'umpirelaw11.CaptureOrders': WHATEVER THE INPUT: true; the input reads as it did. -/
def captureOrdersSpec : ChangeSpec := { name := "captureOrders", fn := fun _ => fun
  | [d1, d2, d3, d4] => { results := [.lit (.bool true)], args := [d1, d2, d3, d4] }
  | _ => none }
def captureOrdersRow : OpenClaim := { program := "ytgnonglkibhnhaadoor", sum := "d8987fd57672927a75bdfc06eb8c1fb17df33af59d943e57109143c621a5f684", func := "umpire/umpirelaw11.CaptureOrders", spec := "captureOrders", unfollowed := true, recurses := true, named := ["umpire/dump.forms"], apart := false, laid := [("umpire/dump.forms", laid_umpire_dump_forms)] }
def CaptureOrdersSaid : Prop := captureOrdersRow.holds Tryd.pinned (OpenSpec.ofChange captureOrdersSpec)

/-- ITS FALSE NEIGHBOUR: 'it returns false'. Refute it at one input. -/
def captureOrdersWrong : ChangeSpec := { name := "captureOrders", fn := fun _ => fun
  | [d1, d2, d3, d4] => { results := [.lit (.bool false)], args := [d1, d2, d3, d4] }
  | _ => none }
def CaptureOrdersWrongFalsely : Prop := captureOrdersRow.holds Tryd.pinned (OpenSpec.ofChange captureOrdersWrong)

/-- 'umpirelaw11.CaptureChunks': WHATEVER THE INPUT: true; the input reads as it did. -/
def captureChunksSpec : ChangeSpec := { name := "captureChunks", fn := fun _ => fun
  | [d1, d2, d3] => { results := [.lit (.bool true)], args := [d1, d2, d3] }
  | _ => none }
def captureChunksRow : OpenClaim := { program := "ytgnonglkibhnhaadoor", sum := "d8987fd57672927a75bdfc06eb8c1fb17df33af59d943e57109143c621a5f684", func := "umpire/umpirelaw11.CaptureChunks", spec := "captureChunks", unfollowed := true, recurses := true, named := ["umpire/dump.forms"], apart := false, laid := [("umpire/dump.forms", laid_umpire_dump_forms)] }
def CaptureChunksSaid : Prop := captureChunksRow.holds Tryd.pinned (OpenSpec.ofChange captureChunksSpec)

/-- ITS FALSE NEIGHBOUR: 'it returns false'. Refute it at one input. -/
def captureChunksWrong : ChangeSpec := { name := "captureChunks", fn := fun _ => fun
  | [d1, d2, d3] => { results := [.lit (.bool false)], args := [d1, d2, d3] }
  | _ => none }
def CaptureChunksWrongFalsely : Prop := captureChunksRow.holds Tryd.pinned (OpenSpec.ofChange captureChunksWrong)

/-- 'umpirelaw11.CaptureKeeps': WHATEVER THE INPUT: true; the input reads as it did. -/
def captureKeepsSpec : ChangeSpec := { name := "captureKeeps", fn := fun _ => fun
  | [d1, d2, d3] => { results := [.lit (.bool true)], args := [d1, d2, d3] }
  | _ => none }
def captureKeepsRow : OpenClaim := { program := "ytgnonglkibhnhaadoor", sum := "d8987fd57672927a75bdfc06eb8c1fb17df33af59d943e57109143c621a5f684", func := "umpire/umpirelaw11.CaptureKeeps", spec := "captureKeeps", unfollowed := true, recurses := true, named := ["umpire/dump.forms"], apart := false, laid := [("umpire/dump.forms", laid_umpire_dump_forms)] }
def CaptureKeepsSaid : Prop := captureKeepsRow.holds Tryd.pinned (OpenSpec.ofChange captureKeepsSpec)

/-- ITS FALSE NEIGHBOUR: 'it returns false'. Refute it at one input. -/
def captureKeepsWrong : ChangeSpec := { name := "captureKeeps", fn := fun _ => fun
  | [d1, d2, d3] => { results := [.lit (.bool false)], args := [d1, d2, d3] }
  | _ => none }
def CaptureKeepsWrongFalsely : Prop := captureKeepsRow.holds Tryd.pinned (OpenSpec.ofChange captureKeepsWrong)

/- THE SECOND FORM. 'bulk': how many values and letters a reading holds, each counted each time it is reached (what is shared counts as often as it is met; a slice's spare places count too). A statement '..UptoSaid' is the law's where the arguments, and the package variables that the reading takes, are together of bulk at most 1048576: NARROWER than '..Said'. Prove '..Said' where nothing that the law and all that it calls make is longer than what came in: it says more and counts as full. Else prove '..UptoSaid'. A law counts once. -/
mutual
def uptoBulk {H : Type} : DataW H → Nat
  | .lit (.string bytes) => bytes.length + 1
  | .lit _ => 1
  | .nil => 1
  | .ptr d => uptoBulk d + 1
  | .slice elems spare => uptoBulkAll elems + uptoBulkAll spare + 1
  | .agg parts => uptoBulkAll parts + 1
  | .iface _ d => uptoBulk d + 1
  | .map entries => uptoBulkEntries entries + 1
  | .held _ => 1
def uptoBulkAll {H : Type} : List (DataW H) → Nat
  | [] => 0
  | d :: r => uptoBulk d + uptoBulkAll r
def uptoBulkEntries {H : Type} : List (Lit × DataW H) → Nat
  | [] => 0
  | x :: r => uptoBulkEntry x + uptoBulkEntries r
def uptoBulkEntry {H : Type} : Lit × DataW H → Nat
  | (.string bytes, d) => bytes.length + uptoBulk d + 1
  | (_, d) => uptoBulk d + 1
 end
def uptoSmall : (H : Type) → List (DataW H) → Bool := fun _ ds => decide (uptoBulkAll ds ≤ 1048576)
def OpenSpec.upto (s : _root_.Go.ChangeSpec) : _root_.Go.OpenSpec := { _root_.Go.OpenSpec.ofChange s with cond := some uptoSmall }

/-- 'umpirelaw11.CaptureReads', WHERE WHAT IT READS IS OF BULK AT MOST 1048576: true; the input reads as it did. -/
def captureReadsUptoRow : OpenClaim := { program := "ytgnonglkibhnhaadoor", sum := "d8987fd57672927a75bdfc06eb8c1fb17df33af59d943e57109143c621a5f684", func := "umpire/umpirelaw11.CaptureReads", spec := "captureReads", unfollowed := true, recurses := true, named := ["umpire/dump.forms"], apart := false, laid := [("umpire/dump.forms", laid_umpire_dump_forms)], narrowed := true }
def CaptureReadsUptoSaid : Prop := captureReadsUptoRow.holds Tryd.pinned (OpenSpec.upto captureReadsSpec)

/-- 'umpirelaw11.CaptureWrites', WHERE WHAT IT READS IS OF BULK AT MOST 1048576: true; the input reads as it did. -/
def captureWritesUptoRow : OpenClaim := { program := "ytgnonglkibhnhaadoor", sum := "d8987fd57672927a75bdfc06eb8c1fb17df33af59d943e57109143c621a5f684", func := "umpire/umpirelaw11.CaptureWrites", spec := "captureWrites", unfollowed := true, recurses := true, named := ["umpire/dump.forms"], apart := false, laid := [("umpire/dump.forms", laid_umpire_dump_forms)], narrowed := true }
def CaptureWritesUptoSaid : Prop := captureWritesUptoRow.holds Tryd.pinned (OpenSpec.upto captureWritesSpec)

/-- 'umpirelaw11.CaptureWays', WHERE WHAT IT READS IS OF BULK AT MOST 1048576: true; the input reads as it did. -/
def captureWaysUptoRow : OpenClaim := { program := "ytgnonglkibhnhaadoor", sum := "d8987fd57672927a75bdfc06eb8c1fb17df33af59d943e57109143c621a5f684", func := "umpire/umpirelaw11.CaptureWays", spec := "captureWays", unfollowed := true, recurses := true, named := ["umpire/dump.forms"], apart := false, laid := [("umpire/dump.forms", laid_umpire_dump_forms)], narrowed := true }
def CaptureWaysUptoSaid : Prop := captureWaysUptoRow.holds Tryd.pinned (OpenSpec.upto captureWaysSpec)

/-- 'umpirelaw11.CaptureOrders', WHERE WHAT IT READS IS OF BULK AT MOST 1048576: true; the input reads as it did. -/
def captureOrdersUptoRow : OpenClaim := { program := "ytgnonglkibhnhaadoor", sum := "d8987fd57672927a75bdfc06eb8c1fb17df33af59d943e57109143c621a5f684", func := "umpire/umpirelaw11.CaptureOrders", spec := "captureOrders", unfollowed := true, recurses := true, named := ["umpire/dump.forms"], apart := false, laid := [("umpire/dump.forms", laid_umpire_dump_forms)], narrowed := true }
def CaptureOrdersUptoSaid : Prop := captureOrdersUptoRow.holds Tryd.pinned (OpenSpec.upto captureOrdersSpec)

/-- 'umpirelaw11.CaptureChunks', WHERE WHAT IT READS IS OF BULK AT MOST 1048576: true; the input reads as it did. -/
def captureChunksUptoRow : OpenClaim := { program := "ytgnonglkibhnhaadoor", sum := "d8987fd57672927a75bdfc06eb8c1fb17df33af59d943e57109143c621a5f684", func := "umpire/umpirelaw11.CaptureChunks", spec := "captureChunks", unfollowed := true, recurses := true, named := ["umpire/dump.forms"], apart := false, laid := [("umpire/dump.forms", laid_umpire_dump_forms)], narrowed := true }
def CaptureChunksUptoSaid : Prop := captureChunksUptoRow.holds Tryd.pinned (OpenSpec.upto captureChunksSpec)

/-- 'umpirelaw11.CaptureKeeps', WHERE WHAT IT READS IS OF BULK AT MOST 1048576: true; the input reads as it did. -/
def captureKeepsUptoRow : OpenClaim := { program := "ytgnonglkibhnhaadoor", sum := "d8987fd57672927a75bdfc06eb8c1fb17df33af59d943e57109143c621a5f684", func := "umpire/umpirelaw11.CaptureKeeps", spec := "captureKeeps", unfollowed := true, recurses := true, named := ["umpire/dump.forms"], apart := false, laid := [("umpire/dump.forms", laid_umpire_dump_forms)], narrowed := true }
def CaptureKeepsUptoSaid : Prop := captureKeepsUptoRow.holds Tryd.pinned (OpenSpec.upto captureKeepsSpec)

end Rows
end Go.Proofs.YtgnonglkibhnhaaDoor
