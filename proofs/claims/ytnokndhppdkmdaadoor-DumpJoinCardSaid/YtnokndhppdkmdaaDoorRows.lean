/-
  NARROWER THAN 'FOR EVERY INPUT', by the rows' own cells (each row's printed sentence says how): DumpPuts: laid · DumpReads: laid · DumpBack: laid · DumpCuts: laid · DumpJoin: laid · DumpKeeps: laid.
  DERIVED. THE GIVEN ROWS OF THIS SEAT. 6 by the template 'for every input the law returns true; each argument reads behind the call as it read before'; 0 by the template 'total and deterministic' (their statements: YtnokndhppdkmdaaDoorTotals.lean).
  GIVEN WITH THE SEED: the statements are not yours to turn. If you find one false, say at which input.
  Laid BY PROGRAM, IN A SANDBOX (cutbox-rows.mjs): the forced cells as the released guide's own fill.sh prints them over the translation 36dacaf33b914cc0… (all of the seat's roots in one cut). By AI agents, Wed Nov 11 2026. No macro, syntax, notation, axiom, sorry.
-/
import Derived.Test.YtnokndhppdkmdaaDoorChecked
import GoSem.Claim
import GoSem.ClaimJoined
import GoSem.ClaimMapViews
import Derived.JoinedTies
import Derived.KernelRfl
namespace Go.Proofs.YtnokndhppdkmdaaDoor
/- THE CELL 'sum', in the pinned program and in every row, IS THE sha256 OF THE DUMP (.gsa) THAT YtnokndhppdkmdaaDoorProg.lean LOADS. Nothing in Lean hashes anything: it is a label: what it is worth is what the hold of that sum in a sandbox is worth. -/
noncomputable def Tryd.pinned : Pinned := { name := "ytnokndhppdkmdaadoor", sum := "36dacaf33b914cc01bb79435dedafc90d10cfa3c5e3744bc09fd06978adf2615", checked := Tryd.checked }
namespace Rows
def none {H : Type} : Left H := { results := [], args := [] }

/- WHAT THE LISTED PACKAGE-LEVEL VARIABLES READ AS WHEN THE CALL BEGINS. Each datum BY PROGRAM (the guide's laid-datum.mjs) off the statement by which the dump's own 'gosem.cut.vars' lays the variable. In a bare row this is a premise. The card (YtnokndhppdkmdaaDoorCards.lean) ties it to the program's text. -/
def laid_umpire_dump_forms {H : Type} : DataW H := .agg [.agg [.lit (.bool false), .lit (.int .i64 0)], .agg [.lit (.bool true), .lit (.int .i64 0)], .agg [.lit (.bool true), .lit (.int .i64 0)], .agg [.lit (.bool false), .lit (.int .i64 0)], .agg [.lit (.bool false), .lit (.int .i64 0)], .agg [.lit (.bool false), .lit (.int .i64 4)], .agg [.lit (.bool false), .lit (.int .i64 1)], .agg [.lit (.bool false), .lit (.int .i64 4)]]

/-- 'umpirelaw10.DumpPuts': WHATEVER THE INPUT: true; the input reads as it did. -/
def dumpPutsSpec : ChangeSpec := { name := "dumpPuts", fn := fun _ => fun
  | [d] => { results := [.lit (.bool true)], args := [d] }
  | _ => none }
def dumpPutsRow : OpenClaim := { program := "ytnokndhppdkmdaadoor", sum := "36dacaf33b914cc01bb79435dedafc90d10cfa3c5e3744bc09fd06978adf2615", func := "umpire/umpirelaw10.DumpPuts", spec := "dumpPuts", named := ["umpire/dump.forms"], apart := false, laid := [("umpire/dump.forms", laid_umpire_dump_forms)] }
def DumpPutsSaid : Prop := dumpPutsRow.holds Tryd.pinned (OpenSpec.ofChange dumpPutsSpec)

/-- ITS FALSE NEIGHBOUR: 'it returns false'. Refute it at one input. -/
def dumpPutsWrong : ChangeSpec := { name := "dumpPuts", fn := fun _ => fun
  | [d] => { results := [.lit (.bool false)], args := [d] }
  | _ => none }
def DumpPutsWrongFalsely : Prop := dumpPutsRow.holds Tryd.pinned (OpenSpec.ofChange dumpPutsWrong)

/-- 'umpirelaw10.DumpReads': WHATEVER THE INPUT: true; the input reads as it did. -/
def dumpReadsSpec : ChangeSpec := { name := "dumpReads", fn := fun _ => fun
  | [d] => { results := [.lit (.bool true)], args := [d] }
  | _ => none }
def dumpReadsRow : OpenClaim := { program := "ytnokndhppdkmdaadoor", sum := "36dacaf33b914cc01bb79435dedafc90d10cfa3c5e3744bc09fd06978adf2615", func := "umpire/umpirelaw10.DumpReads", spec := "dumpReads", named := ["umpire/dump.forms"], apart := false, laid := [("umpire/dump.forms", laid_umpire_dump_forms)] }
def DumpReadsSaid : Prop := dumpReadsRow.holds Tryd.pinned (OpenSpec.ofChange dumpReadsSpec)

/-- ITS FALSE NEIGHBOUR: 'it returns false'. Refute it at one input. -/
def dumpReadsWrong : ChangeSpec := { name := "dumpReads", fn := fun _ => fun
  | [d] => { results := [.lit (.bool false)], args := [d] }
  | _ => none }
def DumpReadsWrongFalsely : Prop := dumpReadsRow.holds Tryd.pinned (OpenSpec.ofChange dumpReadsWrong)

/-- 'umpirelaw10.DumpBack': WHATEVER THE INPUT: true; the input reads as it did. -/
def dumpBackSpec : ChangeSpec := { name := "dumpBack", fn := fun _ => fun
  | [d1, d2] => { results := [.lit (.bool true)], args := [d1, d2] }
  | _ => none }
def dumpBackRow : OpenClaim := { program := "ytnokndhppdkmdaadoor", sum := "36dacaf33b914cc01bb79435dedafc90d10cfa3c5e3744bc09fd06978adf2615", func := "umpire/umpirelaw10.DumpBack", spec := "dumpBack", named := ["umpire/dump.forms"], apart := false, laid := [("umpire/dump.forms", laid_umpire_dump_forms)] }
def DumpBackSaid : Prop := dumpBackRow.holds Tryd.pinned (OpenSpec.ofChange dumpBackSpec)

/-- ITS FALSE NEIGHBOUR: 'it returns false'. Refute it at one input. -/
def dumpBackWrong : ChangeSpec := { name := "dumpBack", fn := fun _ => fun
  | [d1, d2] => { results := [.lit (.bool false)], args := [d1, d2] }
  | _ => none }
def DumpBackWrongFalsely : Prop := dumpBackRow.holds Tryd.pinned (OpenSpec.ofChange dumpBackWrong)

/-- 'umpirelaw10.DumpCuts': WHATEVER THE INPUT: true; the input reads as it did. -/
def dumpCutsSpec : ChangeSpec := { name := "dumpCuts", fn := fun _ => fun
  | [d1, d2] => { results := [.lit (.bool true)], args := [d1, d2] }
  | _ => none }
def dumpCutsRow : OpenClaim := { program := "ytnokndhppdkmdaadoor", sum := "36dacaf33b914cc01bb79435dedafc90d10cfa3c5e3744bc09fd06978adf2615", func := "umpire/umpirelaw10.DumpCuts", spec := "dumpCuts", named := ["umpire/dump.forms"], apart := false, laid := [("umpire/dump.forms", laid_umpire_dump_forms)] }
def DumpCutsSaid : Prop := dumpCutsRow.holds Tryd.pinned (OpenSpec.ofChange dumpCutsSpec)

/-- ITS FALSE NEIGHBOUR: 'it returns false'. Refute it at one input. -/
def dumpCutsWrong : ChangeSpec := { name := "dumpCuts", fn := fun _ => fun
  | [d1, d2] => { results := [.lit (.bool false)], args := [d1, d2] }
  | _ => none }
def DumpCutsWrongFalsely : Prop := dumpCutsRow.holds Tryd.pinned (OpenSpec.ofChange dumpCutsWrong)

/-- 'umpirelaw10.DumpJoin': WHATEVER THE INPUT: true; the input reads as it did. -/
def dumpJoinSpec : ChangeSpec := { name := "dumpJoin", fn := fun _ => fun
  | [d1, d2] => { results := [.lit (.bool true)], args := [d1, d2] }
  | _ => none }
def dumpJoinRow : OpenClaim := { program := "ytnokndhppdkmdaadoor", sum := "36dacaf33b914cc01bb79435dedafc90d10cfa3c5e3744bc09fd06978adf2615", func := "umpire/umpirelaw10.DumpJoin", spec := "dumpJoin", named := ["umpire/dump.forms"], apart := false, laid := [("umpire/dump.forms", laid_umpire_dump_forms)] }
def DumpJoinSaid : Prop := dumpJoinRow.holds Tryd.pinned (OpenSpec.ofChange dumpJoinSpec)

/-- ITS FALSE NEIGHBOUR: 'it returns false'. Refute it at one input. -/
def dumpJoinWrong : ChangeSpec := { name := "dumpJoin", fn := fun _ => fun
  | [d1, d2] => { results := [.lit (.bool false)], args := [d1, d2] }
  | _ => none }
def DumpJoinWrongFalsely : Prop := dumpJoinRow.holds Tryd.pinned (OpenSpec.ofChange dumpJoinWrong)

/-- 'umpirelaw10.DumpKeeps': WHATEVER THE INPUT: true; the input reads as it did. -/
def dumpKeepsSpec : ChangeSpec := { name := "dumpKeeps", fn := fun _ => fun
  | [d] => { results := [.lit (.bool true)], args := [d] }
  | _ => none }
def dumpKeepsRow : OpenClaim := { program := "ytnokndhppdkmdaadoor", sum := "36dacaf33b914cc01bb79435dedafc90d10cfa3c5e3744bc09fd06978adf2615", func := "umpire/umpirelaw10.DumpKeeps", spec := "dumpKeeps", named := ["umpire/dump.forms"], apart := false, laid := [("umpire/dump.forms", laid_umpire_dump_forms)] }
def DumpKeepsSaid : Prop := dumpKeepsRow.holds Tryd.pinned (OpenSpec.ofChange dumpKeepsSpec)

/-- ITS FALSE NEIGHBOUR: 'it returns false'. Refute it at one input. -/
def dumpKeepsWrong : ChangeSpec := { name := "dumpKeeps", fn := fun _ => fun
  | [d] => { results := [.lit (.bool false)], args := [d] }
  | _ => none }
def DumpKeepsWrongFalsely : Prop := dumpKeepsRow.holds Tryd.pinned (OpenSpec.ofChange dumpKeepsWrong)

/- THE SECOND FORM. 'bulk': how many values and letters a reading holds, each counted each time it is reached (what is shared counts as often as it is met; a slice's spare places count too). A statement '..UptoSaid' is the law's where the arguments, and the package variables that the reading takes, are together of bulk at most 1048576: NARROWER than '..Said'. Prove '..Said' where nothing that the law and all that it calls make is longer than what came in: it says more and counts as full. Else prove '..UptoSaid'. A law counts once. -/
mutual
def uptoBulk {H : Type} : DataW H → Nat
  | .lit (.string bytes) => bytes.length + 1
  | .lit _ => 1
  | .nil => 1
  | .ptr d => uptoBulk d + 1
  | .slice elems spare => uptoBulkAll elems + uptoBulkAll spare + 1
  | .agg parts => uptoBulkAll parts + 1
  | .iface _ d => uptoBulk d + 1
  | .map entries => uptoBulkEntries entries + 1
  | .held _ => 1
def uptoBulkAll {H : Type} : List (DataW H) → Nat
  | [] => 0
  | d :: r => uptoBulk d + uptoBulkAll r
def uptoBulkEntries {H : Type} : List (Lit × DataW H) → Nat
  | [] => 0
  | x :: r => uptoBulkEntry x + uptoBulkEntries r
def uptoBulkEntry {H : Type} : Lit × DataW H → Nat
  | (.string bytes, d) => bytes.length + uptoBulk d + 1
  | (_, d) => uptoBulk d + 1
 end
def uptoSmall : (H : Type) → List (DataW H) → Bool := fun _ ds => decide (uptoBulkAll ds ≤ 1048576)
def OpenSpec.upto (s : _root_.Go.ChangeSpec) : _root_.Go.OpenSpec := { _root_.Go.OpenSpec.ofChange s with cond := some uptoSmall }

/-- 'umpirelaw10.DumpPuts', WHERE WHAT IT READS IS OF BULK AT MOST 1048576: true; the input reads as it did. -/
def dumpPutsUptoRow : OpenClaim := { program := "ytnokndhppdkmdaadoor", sum := "36dacaf33b914cc01bb79435dedafc90d10cfa3c5e3744bc09fd06978adf2615", func := "umpire/umpirelaw10.DumpPuts", spec := "dumpPuts", named := ["umpire/dump.forms"], apart := false, laid := [("umpire/dump.forms", laid_umpire_dump_forms)], narrowed := true }
def DumpPutsUptoSaid : Prop := dumpPutsUptoRow.holds Tryd.pinned (OpenSpec.upto dumpPutsSpec)

/-- 'umpirelaw10.DumpReads', WHERE WHAT IT READS IS OF BULK AT MOST 1048576: true; the input reads as it did. -/
def dumpReadsUptoRow : OpenClaim := { program := "ytnokndhppdkmdaadoor", sum := "36dacaf33b914cc01bb79435dedafc90d10cfa3c5e3744bc09fd06978adf2615", func := "umpire/umpirelaw10.DumpReads", spec := "dumpReads", named := ["umpire/dump.forms"], apart := false, laid := [("umpire/dump.forms", laid_umpire_dump_forms)], narrowed := true }
def DumpReadsUptoSaid : Prop := dumpReadsUptoRow.holds Tryd.pinned (OpenSpec.upto dumpReadsSpec)

/-- 'umpirelaw10.DumpBack', WHERE WHAT IT READS IS OF BULK AT MOST 1048576: true; the input reads as it did. -/
def dumpBackUptoRow : OpenClaim := { program := "ytnokndhppdkmdaadoor", sum := "36dacaf33b914cc01bb79435dedafc90d10cfa3c5e3744bc09fd06978adf2615", func := "umpire/umpirelaw10.DumpBack", spec := "dumpBack", named := ["umpire/dump.forms"], apart := false, laid := [("umpire/dump.forms", laid_umpire_dump_forms)], narrowed := true }
def DumpBackUptoSaid : Prop := dumpBackUptoRow.holds Tryd.pinned (OpenSpec.upto dumpBackSpec)

/-- 'umpirelaw10.DumpCuts', WHERE WHAT IT READS IS OF BULK AT MOST 1048576: true; the input reads as it did. -/
def dumpCutsUptoRow : OpenClaim := { program := "ytnokndhppdkmdaadoor", sum := "36dacaf33b914cc01bb79435dedafc90d10cfa3c5e3744bc09fd06978adf2615", func := "umpire/umpirelaw10.DumpCuts", spec := "dumpCuts", named := ["umpire/dump.forms"], apart := false, laid := [("umpire/dump.forms", laid_umpire_dump_forms)], narrowed := true }
def DumpCutsUptoSaid : Prop := dumpCutsUptoRow.holds Tryd.pinned (OpenSpec.upto dumpCutsSpec)

/-- 'umpirelaw10.DumpJoin', WHERE WHAT IT READS IS OF BULK AT MOST 1048576: true; the input reads as it did. -/
def dumpJoinUptoRow : OpenClaim := { program := "ytnokndhppdkmdaadoor", sum := "36dacaf33b914cc01bb79435dedafc90d10cfa3c5e3744bc09fd06978adf2615", func := "umpire/umpirelaw10.DumpJoin", spec := "dumpJoin", named := ["umpire/dump.forms"], apart := false, laid := [("umpire/dump.forms", laid_umpire_dump_forms)], narrowed := true }
def DumpJoinUptoSaid : Prop := dumpJoinUptoRow.holds Tryd.pinned (OpenSpec.upto dumpJoinSpec)

/-- 'umpirelaw10.DumpKeeps', WHERE WHAT IT READS IS OF BULK AT MOST 1048576: true; the input reads as it did. -/
def dumpKeepsUptoRow : OpenClaim := { program := "ytnokndhppdkmdaadoor", sum := "36dacaf33b914cc01bb79435dedafc90d10cfa3c5e3744bc09fd06978adf2615", func := "umpire/umpirelaw10.DumpKeeps", spec := "dumpKeeps", named := ["umpire/dump.forms"], apart := false, laid := [("umpire/dump.forms", laid_umpire_dump_forms)], narrowed := true }
def DumpKeepsUptoSaid : Prop := dumpKeepsUptoRow.holds Tryd.pinned (OpenSpec.upto dumpKeepsSpec)

end Rows
end Go.Proofs.YtnokndhppdkmdaaDoor
