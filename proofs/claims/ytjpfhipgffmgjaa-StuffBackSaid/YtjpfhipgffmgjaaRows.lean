/-
  No cell of these rows narrows 'for every input' (looked for: loops, veiled, ifaces, maps, wideKeys, modest, calm, conditions, laid).
  DERIVED. THE GIVEN ROWS OF THIS SEAT. 9 by the template 'for every input the law returns true; each argument reads behind the call as it read before'; 0 by the template 'total and deterministic' (their statements: YtjpfhipgffmgjaaTotals.lean).
  GIVEN WITH THE SEED: the statements are not yours to turn. If you find one false, say at which input.
  Laid BY PROGRAM, IN A SANDBOX (cutbox-rows.mjs): the forced cells as the released guide's own fill.sh prints them over the translation 6e8e424e72db8384… (all of the seat's roots in one cut). By AI agents, Wed Nov 11 2026. No macro, syntax, notation, axiom, sorry.
-/
import Derived.Test.YtjpfhipgffmgjaaChecked
import GoSem.Claim
import GoSem.ClaimJoined
import GoSem.ClaimMapViews
import Derived.JoinedTies
import Derived.KernelRfl
namespace Go.Proofs.Ytjpfhipgffmgjaa
/- THE CELL 'sum', in the pinned program and in every row, IS THE sha256 OF THE DUMP (.gsa) THAT YtjpfhipgffmgjaaProg.lean LOADS. Nothing in Lean hashes anything: it is a label: what it is worth is what the hold of that sum in a sandbox is worth. -/
noncomputable def Try.pinned : Pinned := { name := "ytjpfhipgffmgjaa", sum := "6e8e424e72db8384b237cff54581a7c2a7a8cc8ae6561f2d93c1621d0827a612", checked := Try.checked }
namespace Rows
def none {H : Type} : Left H := { results := [], args := [] }

/-- 'umpirelaw06.StuffPuts': WHATEVER THE INPUT: true; the input reads as it did. -/
def stuffPutsSpec : ChangeSpec := { name := "stuffPuts", fn := fun _ => fun
  | [d1, d2] => { results := [.lit (.bool true)], args := [d1, d2] }
  | _ => none }
def stuffPutsRow : OpenClaim := { program := "ytjpfhipgffmgjaa", sum := "6e8e424e72db8384b237cff54581a7c2a7a8cc8ae6561f2d93c1621d0827a612", func := "umpire/umpirelaw06.StuffPuts", spec := "stuffPuts", unfollowed := true, recurses := true, apart := false }
def StuffPutsSaid : Prop := stuffPutsRow.holds Try.pinned (OpenSpec.ofChange stuffPutsSpec)

/-- ITS FALSE NEIGHBOUR: 'it returns false'. Refute it at one input. -/
def stuffPutsWrong : ChangeSpec := { name := "stuffPuts", fn := fun _ => fun
  | [d1, d2] => { results := [.lit (.bool false)], args := [d1, d2] }
  | _ => none }
def StuffPutsWrongFalsely : Prop := stuffPutsRow.holds Try.pinned (OpenSpec.ofChange stuffPutsWrong)

/-- 'umpirelaw06.StuffJoin': WHATEVER THE INPUT: true; the input reads as it did. -/
def stuffJoinSpec : ChangeSpec := { name := "stuffJoin", fn := fun _ => fun
  | [d1, d2, d3] => { results := [.lit (.bool true)], args := [d1, d2, d3] }
  | _ => none }
def stuffJoinRow : OpenClaim := { program := "ytjpfhipgffmgjaa", sum := "6e8e424e72db8384b237cff54581a7c2a7a8cc8ae6561f2d93c1621d0827a612", func := "umpire/umpirelaw06.StuffJoin", spec := "stuffJoin", unfollowed := true, recurses := true, apart := false }
def StuffJoinSaid : Prop := stuffJoinRow.holds Try.pinned (OpenSpec.ofChange stuffJoinSpec)

/-- ITS FALSE NEIGHBOUR: 'it returns false'. Refute it at one input. -/
def stuffJoinWrong : ChangeSpec := { name := "stuffJoin", fn := fun _ => fun
  | [d1, d2, d3] => { results := [.lit (.bool false)], args := [d1, d2, d3] }
  | _ => none }
def StuffJoinWrongFalsely : Prop := stuffJoinRow.holds Try.pinned (OpenSpec.ofChange stuffJoinWrong)

/-- 'umpirelaw06.StuffKeeps': WHATEVER THE INPUT: true; the input reads as it did. -/
def stuffKeepsSpec : ChangeSpec := { name := "stuffKeeps", fn := fun _ => fun
  | [d1, d2] => { results := [.lit (.bool true)], args := [d1, d2] }
  | _ => none }
def stuffKeepsRow : OpenClaim := { program := "ytjpfhipgffmgjaa", sum := "6e8e424e72db8384b237cff54581a7c2a7a8cc8ae6561f2d93c1621d0827a612", func := "umpire/umpirelaw06.StuffKeeps", spec := "stuffKeeps", unfollowed := true, recurses := true, apart := false }
def StuffKeepsSaid : Prop := stuffKeepsRow.holds Try.pinned (OpenSpec.ofChange stuffKeepsSpec)

/-- ITS FALSE NEIGHBOUR: 'it returns false'. Refute it at one input. -/
def stuffKeepsWrong : ChangeSpec := { name := "stuffKeeps", fn := fun _ => fun
  | [d1, d2] => { results := [.lit (.bool false)], args := [d1, d2] }
  | _ => none }
def StuffKeepsWrongFalsely : Prop := stuffKeepsRow.holds Try.pinned (OpenSpec.ofChange stuffKeepsWrong)

/-- 'umpirelaw06.StuffBack': WHATEVER THE INPUT: true; the input reads as it did. -/
def stuffBackSpec : ChangeSpec := { name := "stuffBack", fn := fun _ => fun
  | [d1, d2, d3, d4] => { results := [.lit (.bool true)], args := [d1, d2, d3, d4] }
  | _ => none }
def stuffBackRow : OpenClaim := { program := "ytjpfhipgffmgjaa", sum := "6e8e424e72db8384b237cff54581a7c2a7a8cc8ae6561f2d93c1621d0827a612", func := "umpire/umpirelaw06.StuffBack", spec := "stuffBack", unfollowed := true, recurses := true, apart := false }
def StuffBackSaid : Prop := stuffBackRow.holds Try.pinned (OpenSpec.ofChange stuffBackSpec)

/-- ITS FALSE NEIGHBOUR: 'it returns false'. Refute it at one input. -/
def stuffBackWrong : ChangeSpec := { name := "stuffBack", fn := fun _ => fun
  | [d1, d2, d3, d4] => { results := [.lit (.bool false)], args := [d1, d2, d3, d4] }
  | _ => none }
def StuffBackWrongFalsely : Prop := stuffBackRow.holds Try.pinned (OpenSpec.ofChange stuffBackWrong)

/-- 'umpirelaw08.HeadPuts': WHATEVER THE INPUT: true; the input reads as it did. -/
def headPutsSpec : ChangeSpec := { name := "headPuts", fn := fun _ => fun
  | [d1, d2, d3] => { results := [.lit (.bool true)], args := [d1, d2, d3] }
  | _ => none }
def headPutsRow : OpenClaim := { program := "ytjpfhipgffmgjaa", sum := "6e8e424e72db8384b237cff54581a7c2a7a8cc8ae6561f2d93c1621d0827a612", func := "umpire/umpirelaw08.HeadPuts", spec := "headPuts", apart := false }
def HeadPutsSaid : Prop := headPutsRow.holds Try.pinned (OpenSpec.ofChange headPutsSpec)

/-- ITS FALSE NEIGHBOUR: 'it returns false'. Refute it at one input. -/
def headPutsWrong : ChangeSpec := { name := "headPuts", fn := fun _ => fun
  | [d1, d2, d3] => { results := [.lit (.bool false)], args := [d1, d2, d3] }
  | _ => none }
def HeadPutsWrongFalsely : Prop := headPutsRow.holds Try.pinned (OpenSpec.ofChange headPutsWrong)

/-- 'umpirelaw08.HeadReads': WHATEVER THE INPUT: true; the input reads as it did. -/
def headReadsSpec : ChangeSpec := { name := "headReads", fn := fun _ => fun
  | [d] => { results := [.lit (.bool true)], args := [d] }
  | _ => none }
def headReadsRow : OpenClaim := { program := "ytjpfhipgffmgjaa", sum := "6e8e424e72db8384b237cff54581a7c2a7a8cc8ae6561f2d93c1621d0827a612", func := "umpire/umpirelaw08.HeadReads", spec := "headReads", apart := false }
def HeadReadsSaid : Prop := headReadsRow.holds Try.pinned (OpenSpec.ofChange headReadsSpec)

/-- ITS FALSE NEIGHBOUR: 'it returns false'. Refute it at one input. -/
def headReadsWrong : ChangeSpec := { name := "headReads", fn := fun _ => fun
  | [d] => { results := [.lit (.bool false)], args := [d] }
  | _ => none }
def HeadReadsWrongFalsely : Prop := headReadsRow.holds Try.pinned (OpenSpec.ofChange headReadsWrong)

/-- 'umpirelaw08.HeadBack': WHATEVER THE INPUT: true; the input reads as it did. -/
def headBackSpec : ChangeSpec := { name := "headBack", fn := fun _ => fun
  | [d1, d2, d3, d4, d5] => { results := [.lit (.bool true)], args := [d1, d2, d3, d4, d5] }
  | _ => none }
def headBackRow : OpenClaim := { program := "ytjpfhipgffmgjaa", sum := "6e8e424e72db8384b237cff54581a7c2a7a8cc8ae6561f2d93c1621d0827a612", func := "umpire/umpirelaw08.HeadBack", spec := "headBack", apart := false }
def HeadBackSaid : Prop := headBackRow.holds Try.pinned (OpenSpec.ofChange headBackSpec)

/-- ITS FALSE NEIGHBOUR: 'it returns false'. Refute it at one input. -/
def headBackWrong : ChangeSpec := { name := "headBack", fn := fun _ => fun
  | [d1, d2, d3, d4, d5] => { results := [.lit (.bool false)], args := [d1, d2, d3, d4, d5] }
  | _ => none }
def HeadBackWrongFalsely : Prop := headBackRow.holds Try.pinned (OpenSpec.ofChange headBackWrong)

/-- 'umpirelaw08.HeadOnly': WHATEVER THE INPUT: true; the input reads as it did. -/
def headOnlySpec : ChangeSpec := { name := "headOnly", fn := fun _ => fun
  | [d] => { results := [.lit (.bool true)], args := [d] }
  | _ => none }
def headOnlyRow : OpenClaim := { program := "ytjpfhipgffmgjaa", sum := "6e8e424e72db8384b237cff54581a7c2a7a8cc8ae6561f2d93c1621d0827a612", func := "umpire/umpirelaw08.HeadOnly", spec := "headOnly", apart := false }
def HeadOnlySaid : Prop := headOnlyRow.holds Try.pinned (OpenSpec.ofChange headOnlySpec)

/-- ITS FALSE NEIGHBOUR: 'it returns false'. Refute it at one input. -/
def headOnlyWrong : ChangeSpec := { name := "headOnly", fn := fun _ => fun
  | [d] => { results := [.lit (.bool false)], args := [d] }
  | _ => none }
def HeadOnlyWrongFalsely : Prop := headOnlyRow.holds Try.pinned (OpenSpec.ofChange headOnlyWrong)

/-- 'umpirelaw08.HeadKeeps': WHATEVER THE INPUT: true; the input reads as it did. -/
def headKeepsSpec : ChangeSpec := { name := "headKeeps", fn := fun _ => fun
  | [d] => { results := [.lit (.bool true)], args := [d] }
  | _ => none }
def headKeepsRow : OpenClaim := { program := "ytjpfhipgffmgjaa", sum := "6e8e424e72db8384b237cff54581a7c2a7a8cc8ae6561f2d93c1621d0827a612", func := "umpire/umpirelaw08.HeadKeeps", spec := "headKeeps", apart := false }
def HeadKeepsSaid : Prop := headKeepsRow.holds Try.pinned (OpenSpec.ofChange headKeepsSpec)

/-- ITS FALSE NEIGHBOUR: 'it returns false'. Refute it at one input. -/
def headKeepsWrong : ChangeSpec := { name := "headKeeps", fn := fun _ => fun
  | [d] => { results := [.lit (.bool false)], args := [d] }
  | _ => none }
def HeadKeepsWrongFalsely : Prop := headKeepsRow.holds Try.pinned (OpenSpec.ofChange headKeepsWrong)

/- THE SECOND FORM. 'bulk': how many values and letters a reading holds, each counted each time it is reached (what is shared counts as often as it is met; a slice's spare places count too). A statement '..UptoSaid' is the law's where the arguments, and the package variables that the reading takes, are together of bulk at most 1048576: NARROWER than '..Said'. Prove '..Said' where nothing that the law and all that it calls make is longer than what came in: it says more and counts as full. Else prove '..UptoSaid'. A law counts once. -/
mutual
def uptoBulk {H : Type} : DataW H → Nat
  | .lit (.string bytes) => bytes.length + 1
  | .lit _ => 1
  | .nil => 1
  | .ptr d => uptoBulk d + 1
  | .slice elems spare => uptoBulkAll elems + uptoBulkAll spare + 1
  | .agg parts => uptoBulkAll parts + 1
  | .iface _ d => uptoBulk d + 1
  | .map entries => uptoBulkEntries entries + 1
  | .held _ => 1
def uptoBulkAll {H : Type} : List (DataW H) → Nat
  | [] => 0
  | d :: r => uptoBulk d + uptoBulkAll r
def uptoBulkEntries {H : Type} : List (Lit × DataW H) → Nat
  | [] => 0
  | x :: r => uptoBulkEntry x + uptoBulkEntries r
def uptoBulkEntry {H : Type} : Lit × DataW H → Nat
  | (.string bytes, d) => bytes.length + uptoBulk d + 1
  | (_, d) => uptoBulk d + 1
 end
def uptoSmall : (H : Type) → List (DataW H) → Bool := fun _ ds => decide (uptoBulkAll ds ≤ 1048576)
def OpenSpec.upto (s : _root_.Go.ChangeSpec) : _root_.Go.OpenSpec := { _root_.Go.OpenSpec.ofChange s with cond := some uptoSmall }

/-- 'umpirelaw06.StuffPuts', WHERE WHAT IT READS IS OF BULK AT MOST 1048576: true; the input reads as it did. -/
def stuffPutsUptoRow : OpenClaim := { program := "ytjpfhipgffmgjaa", sum := "6e8e424e72db8384b237cff54581a7c2a7a8cc8ae6561f2d93c1621d0827a612", func := "umpire/umpirelaw06.StuffPuts", spec := "stuffPuts", unfollowed := true, recurses := true, apart := false, narrowed := true }
def StuffPutsUptoSaid : Prop := stuffPutsUptoRow.holds Try.pinned (OpenSpec.upto stuffPutsSpec)

/-- 'umpirelaw06.StuffJoin', WHERE WHAT IT READS IS OF BULK AT MOST 1048576: true; the input reads as it did. -/
def stuffJoinUptoRow : OpenClaim := { program := "ytjpfhipgffmgjaa", sum := "6e8e424e72db8384b237cff54581a7c2a7a8cc8ae6561f2d93c1621d0827a612", func := "umpire/umpirelaw06.StuffJoin", spec := "stuffJoin", unfollowed := true, recurses := true, apart := false, narrowed := true }
def StuffJoinUptoSaid : Prop := stuffJoinUptoRow.holds Try.pinned (OpenSpec.upto stuffJoinSpec)

/-- 'umpirelaw06.StuffKeeps', WHERE WHAT IT READS IS OF BULK AT MOST 1048576: true; the input reads as it did. -/
def stuffKeepsUptoRow : OpenClaim := { program := "ytjpfhipgffmgjaa", sum := "6e8e424e72db8384b237cff54581a7c2a7a8cc8ae6561f2d93c1621d0827a612", func := "umpire/umpirelaw06.StuffKeeps", spec := "stuffKeeps", unfollowed := true, recurses := true, apart := false, narrowed := true }
def StuffKeepsUptoSaid : Prop := stuffKeepsUptoRow.holds Try.pinned (OpenSpec.upto stuffKeepsSpec)

/-- 'umpirelaw06.StuffBack', WHERE WHAT IT READS IS OF BULK AT MOST 1048576: true; the input reads as it did. -/
def stuffBackUptoRow : OpenClaim := { program := "ytjpfhipgffmgjaa", sum := "6e8e424e72db8384b237cff54581a7c2a7a8cc8ae6561f2d93c1621d0827a612", func := "umpire/umpirelaw06.StuffBack", spec := "stuffBack", unfollowed := true, recurses := true, apart := false, narrowed := true }
def StuffBackUptoSaid : Prop := stuffBackUptoRow.holds Try.pinned (OpenSpec.upto stuffBackSpec)

/-- 'umpirelaw08.HeadPuts', WHERE WHAT IT READS IS OF BULK AT MOST 1048576: true; the input reads as it did. -/
def headPutsUptoRow : OpenClaim := { program := "ytjpfhipgffmgjaa", sum := "6e8e424e72db8384b237cff54581a7c2a7a8cc8ae6561f2d93c1621d0827a612", func := "umpire/umpirelaw08.HeadPuts", spec := "headPuts", apart := false, narrowed := true }
def HeadPutsUptoSaid : Prop := headPutsUptoRow.holds Try.pinned (OpenSpec.upto headPutsSpec)

/-- 'umpirelaw08.HeadReads', WHERE WHAT IT READS IS OF BULK AT MOST 1048576: true; the input reads as it did. -/
def headReadsUptoRow : OpenClaim := { program := "ytjpfhipgffmgjaa", sum := "6e8e424e72db8384b237cff54581a7c2a7a8cc8ae6561f2d93c1621d0827a612", func := "umpire/umpirelaw08.HeadReads", spec := "headReads", apart := false, narrowed := true }
def HeadReadsUptoSaid : Prop := headReadsUptoRow.holds Try.pinned (OpenSpec.upto headReadsSpec)

/-- 'umpirelaw08.HeadBack', WHERE WHAT IT READS IS OF BULK AT MOST 1048576: true; the input reads as it did. -/
def headBackUptoRow : OpenClaim := { program := "ytjpfhipgffmgjaa", sum := "6e8e424e72db8384b237cff54581a7c2a7a8cc8ae6561f2d93c1621d0827a612", func := "umpire/umpirelaw08.HeadBack", spec := "headBack", apart := false, narrowed := true }
def HeadBackUptoSaid : Prop := headBackUptoRow.holds Try.pinned (OpenSpec.upto headBackSpec)

/-- 'umpirelaw08.HeadOnly', WHERE WHAT IT READS IS OF BULK AT MOST 1048576: true; the input reads as it did. -/
def headOnlyUptoRow : OpenClaim := { program := "ytjpfhipgffmgjaa", sum := "6e8e424e72db8384b237cff54581a7c2a7a8cc8ae6561f2d93c1621d0827a612", func := "umpire/umpirelaw08.HeadOnly", spec := "headOnly", apart := false, narrowed := true }
def HeadOnlyUptoSaid : Prop := headOnlyUptoRow.holds Try.pinned (OpenSpec.upto headOnlySpec)

/-- 'umpirelaw08.HeadKeeps', WHERE WHAT IT READS IS OF BULK AT MOST 1048576: true; the input reads as it did. -/
def headKeepsUptoRow : OpenClaim := { program := "ytjpfhipgffmgjaa", sum := "6e8e424e72db8384b237cff54581a7c2a7a8cc8ae6561f2d93c1621d0827a612", func := "umpire/umpirelaw08.HeadKeeps", spec := "headKeeps", apart := false, narrowed := true }
def HeadKeepsUptoSaid : Prop := headKeepsUptoRow.holds Try.pinned (OpenSpec.upto headKeepsSpec)

end Rows
end Go.Proofs.Ytjpfhipgffmgjaa
