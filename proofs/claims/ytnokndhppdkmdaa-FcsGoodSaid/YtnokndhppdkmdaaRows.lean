/-
  No cell of these rows narrows 'for every input' (looked for: loops, veiled, ifaces, maps, wideKeys, modest, calm, conditions, laid).
  DERIVED. THE GIVEN ROWS OF THIS SEAT. 6 by the template 'for every input the law returns true; each argument reads behind the call as it read before'; 0 by the template 'total and deterministic' (their statements: YtnokndhppdkmdaaTotals.lean).
  GIVEN WITH THE SEED: the statements are not yours to turn. If you find one false, say at which input.
  Laid BY PROGRAM, IN A SANDBOX (cutbox-rows.mjs): the forced cells as the released guide's own fill.sh prints them over the translation 6ad3d3e2fdf21550… (all of the seat's roots in one cut). By AI agents, Wed Nov 11 2026. No macro, syntax, notation, axiom, sorry.
-/
import Derived.Test.YtnokndhppdkmdaaChecked
import GoSem.Claim
import GoSem.ClaimJoined
import GoSem.ClaimMapViews
import Derived.JoinedTies
import Derived.KernelRfl
namespace Go.Proofs.Ytnokndhppdkmdaa
/- THE CELL 'sum', in the pinned program and in every row, IS THE sha256 OF THE DUMP (.gsa) THAT YtnokndhppdkmdaaProg.lean LOADS. Nothing in Lean hashes anything: it is a label: what it is worth is what the hold of that sum in a sandbox is worth. -/
noncomputable def Try.pinned : Pinned := { name := "ytnokndhppdkmdaa", sum := "6ad3d3e2fdf215504693544672252f298b80e97c7ec90ea55c0cbf394e72a9d3", checked := Try.checked }
namespace Rows
def none {H : Type} : Left H := { results := [], args := [] }

/-- 'umpirelaw04.FcsOf': WHATEVER THE INPUT: true; the input reads as it did. -/
def fcsOfSpec : ChangeSpec := { name := "fcsOf", fn := fun _ => fun
  | [d1, d2, d3] => { results := [.lit (.bool true)], args := [d1, d2, d3] }
  | _ => none }
def fcsOfRow : OpenClaim := { program := "ytnokndhppdkmdaa", sum := "6ad3d3e2fdf215504693544672252f298b80e97c7ec90ea55c0cbf394e72a9d3", func := "umpire/umpirelaw04.FcsOf", spec := "fcsOf", apart := false }
def FcsOfSaid : Prop := fcsOfRow.holds Try.pinned (OpenSpec.ofChange fcsOfSpec)

/-- ITS FALSE NEIGHBOUR: 'it returns false'. Refute it at one input. -/
def fcsOfWrong : ChangeSpec := { name := "fcsOf", fn := fun _ => fun
  | [d1, d2, d3] => { results := [.lit (.bool false)], args := [d1, d2, d3] }
  | _ => none }
def FcsOfWrongFalsely : Prop := fcsOfRow.holds Try.pinned (OpenSpec.ofChange fcsOfWrong)

/-- 'umpirelaw04.FcsOpens': WHATEVER THE INPUT: true; the input reads as it did. -/
def fcsOpensSpec : ChangeSpec := { name := "fcsOpens", fn := fun _ => fun
  | [d1, d2] => { results := [.lit (.bool true)], args := [d1, d2] }
  | _ => none }
def fcsOpensRow : OpenClaim := { program := "ytnokndhppdkmdaa", sum := "6ad3d3e2fdf215504693544672252f298b80e97c7ec90ea55c0cbf394e72a9d3", func := "umpire/umpirelaw04.FcsOpens", spec := "fcsOpens", apart := false }
def FcsOpensSaid : Prop := fcsOpensRow.holds Try.pinned (OpenSpec.ofChange fcsOpensSpec)

/-- ITS FALSE NEIGHBOUR: 'it returns false'. Refute it at one input. -/
def fcsOpensWrong : ChangeSpec := { name := "fcsOpens", fn := fun _ => fun
  | [d1, d2] => { results := [.lit (.bool false)], args := [d1, d2] }
  | _ => none }
def FcsOpensWrongFalsely : Prop := fcsOpensRow.holds Try.pinned (OpenSpec.ofChange fcsOpensWrong)

/-- 'umpirelaw04.FcsGood': WHATEVER THE INPUT: true; the input reads as it did. -/
def fcsGoodSpec : ChangeSpec := { name := "fcsGood", fn := fun _ => fun
  | [d1, d2, d3, d4] => { results := [.lit (.bool true)], args := [d1, d2, d3, d4] }
  | _ => none }
def fcsGoodRow : OpenClaim := { program := "ytnokndhppdkmdaa", sum := "6ad3d3e2fdf215504693544672252f298b80e97c7ec90ea55c0cbf394e72a9d3", func := "umpire/umpirelaw04.FcsGood", spec := "fcsGood", apart := false }
def FcsGoodSaid : Prop := fcsGoodRow.holds Try.pinned (OpenSpec.ofChange fcsGoodSpec)

/-- ITS FALSE NEIGHBOUR: 'it returns false'. Refute it at one input. -/
def fcsGoodWrong : ChangeSpec := { name := "fcsGood", fn := fun _ => fun
  | [d1, d2, d3, d4] => { results := [.lit (.bool false)], args := [d1, d2, d3, d4] }
  | _ => none }
def FcsGoodWrongFalsely : Prop := fcsGoodRow.holds Try.pinned (OpenSpec.ofChange fcsGoodWrong)

/-- 'umpirelaw04.FcsParts': WHATEVER THE INPUT: true; the input reads as it did. -/
def fcsPartsSpec : ChangeSpec := { name := "fcsParts", fn := fun _ => fun
  | [d1, d2, d3] => { results := [.lit (.bool true)], args := [d1, d2, d3] }
  | _ => none }
def fcsPartsRow : OpenClaim := { program := "ytnokndhppdkmdaa", sum := "6ad3d3e2fdf215504693544672252f298b80e97c7ec90ea55c0cbf394e72a9d3", func := "umpire/umpirelaw04.FcsParts", spec := "fcsParts", apart := false }
def FcsPartsSaid : Prop := fcsPartsRow.holds Try.pinned (OpenSpec.ofChange fcsPartsSpec)

/-- ITS FALSE NEIGHBOUR: 'it returns false'. Refute it at one input. -/
def fcsPartsWrong : ChangeSpec := { name := "fcsParts", fn := fun _ => fun
  | [d1, d2, d3] => { results := [.lit (.bool false)], args := [d1, d2, d3] }
  | _ => none }
def FcsPartsWrongFalsely : Prop := fcsPartsRow.holds Try.pinned (OpenSpec.ofChange fcsPartsWrong)

/-- 'umpirelaw04.FcsBits': WHATEVER THE INPUT: true; the input reads as it did. -/
def fcsBitsSpec : ChangeSpec := { name := "fcsBits", fn := fun _ => fun
  | [d1, d2, d3, d4] => { results := [.lit (.bool true)], args := [d1, d2, d3, d4] }
  | _ => none }
def fcsBitsRow : OpenClaim := { program := "ytnokndhppdkmdaa", sum := "6ad3d3e2fdf215504693544672252f298b80e97c7ec90ea55c0cbf394e72a9d3", func := "umpire/umpirelaw04.FcsBits", spec := "fcsBits", apart := false }
def FcsBitsSaid : Prop := fcsBitsRow.holds Try.pinned (OpenSpec.ofChange fcsBitsSpec)

/-- ITS FALSE NEIGHBOUR: 'it returns false'. Refute it at one input. -/
def fcsBitsWrong : ChangeSpec := { name := "fcsBits", fn := fun _ => fun
  | [d1, d2, d3, d4] => { results := [.lit (.bool false)], args := [d1, d2, d3, d4] }
  | _ => none }
def FcsBitsWrongFalsely : Prop := fcsBitsRow.holds Try.pinned (OpenSpec.ofChange fcsBitsWrong)

/-- 'umpirelaw04.FcsKeeps': WHATEVER THE INPUT: true; the input reads as it did. -/
def fcsKeepsSpec : ChangeSpec := { name := "fcsKeeps", fn := fun _ => fun
  | [d1, d2] => { results := [.lit (.bool true)], args := [d1, d2] }
  | _ => none }
def fcsKeepsRow : OpenClaim := { program := "ytnokndhppdkmdaa", sum := "6ad3d3e2fdf215504693544672252f298b80e97c7ec90ea55c0cbf394e72a9d3", func := "umpire/umpirelaw04.FcsKeeps", spec := "fcsKeeps", apart := false }
def FcsKeepsSaid : Prop := fcsKeepsRow.holds Try.pinned (OpenSpec.ofChange fcsKeepsSpec)

/-- ITS FALSE NEIGHBOUR: 'it returns false'. Refute it at one input. -/
def fcsKeepsWrong : ChangeSpec := { name := "fcsKeeps", fn := fun _ => fun
  | [d1, d2] => { results := [.lit (.bool false)], args := [d1, d2] }
  | _ => none }
def FcsKeepsWrongFalsely : Prop := fcsKeepsRow.holds Try.pinned (OpenSpec.ofChange fcsKeepsWrong)

/- THE SECOND FORM. 'bulk': how many values and letters a reading holds, each counted each time it is reached (what is shared counts as often as it is met; a slice's spare places count too). A statement '..UptoSaid' is the law's where the arguments, and the package variables that the reading takes, are together of bulk at most 1048576: NARROWER than '..Said'. Prove '..Said' where nothing that the law and all that it calls make is longer than what came in: it says more and counts as full. Else prove '..UptoSaid'. A law counts once. -/
mutual
def uptoBulk {H : Type} : DataW H → Nat
  | .lit (.string bytes) => bytes.length + 1
  | .lit _ => 1
  | .nil => 1
  | .ptr d => uptoBulk d + 1
  | .slice elems spare => uptoBulkAll elems + uptoBulkAll spare + 1
  | .agg parts => uptoBulkAll parts + 1
  | .iface _ d => uptoBulk d + 1
  | .map entries => uptoBulkEntries entries + 1
  | .held _ => 1
def uptoBulkAll {H : Type} : List (DataW H) → Nat
  | [] => 0
  | d :: r => uptoBulk d + uptoBulkAll r
def uptoBulkEntries {H : Type} : List (Lit × DataW H) → Nat
  | [] => 0
  | x :: r => uptoBulkEntry x + uptoBulkEntries r
def uptoBulkEntry {H : Type} : Lit × DataW H → Nat
  | (.string bytes, d) => bytes.length + uptoBulk d + 1
  | (_, d) => uptoBulk d + 1
 end
def uptoSmall : (H : Type) → List (DataW H) → Bool := fun _ ds => decide (uptoBulkAll ds ≤ 1048576)
def OpenSpec.upto (s : _root_.Go.ChangeSpec) : _root_.Go.OpenSpec := { _root_.Go.OpenSpec.ofChange s with cond := some uptoSmall }

/-- 'umpirelaw04.FcsOf', WHERE WHAT IT READS IS OF BULK AT MOST 1048576: true; the input reads as it did. -/
def fcsOfUptoRow : OpenClaim := { program := "ytnokndhppdkmdaa", sum := "6ad3d3e2fdf215504693544672252f298b80e97c7ec90ea55c0cbf394e72a9d3", func := "umpire/umpirelaw04.FcsOf", spec := "fcsOf", apart := false, narrowed := true }
def FcsOfUptoSaid : Prop := fcsOfUptoRow.holds Try.pinned (OpenSpec.upto fcsOfSpec)

/-- 'umpirelaw04.FcsOpens', WHERE WHAT IT READS IS OF BULK AT MOST 1048576: true; the input reads as it did. -/
def fcsOpensUptoRow : OpenClaim := { program := "ytnokndhppdkmdaa", sum := "6ad3d3e2fdf215504693544672252f298b80e97c7ec90ea55c0cbf394e72a9d3", func := "umpire/umpirelaw04.FcsOpens", spec := "fcsOpens", apart := false, narrowed := true }
def FcsOpensUptoSaid : Prop := fcsOpensUptoRow.holds Try.pinned (OpenSpec.upto fcsOpensSpec)

/-- 'umpirelaw04.FcsGood', WHERE WHAT IT READS IS OF BULK AT MOST 1048576: true; the input reads as it did. -/
def fcsGoodUptoRow : OpenClaim := { program := "ytnokndhppdkmdaa", sum := "6ad3d3e2fdf215504693544672252f298b80e97c7ec90ea55c0cbf394e72a9d3", func := "umpire/umpirelaw04.FcsGood", spec := "fcsGood", apart := false, narrowed := true }
def FcsGoodUptoSaid : Prop := fcsGoodUptoRow.holds Try.pinned (OpenSpec.upto fcsGoodSpec)

/-- 'umpirelaw04.FcsParts', WHERE WHAT IT READS IS OF BULK AT MOST 1048576: true; the input reads as it did. -/
def fcsPartsUptoRow : OpenClaim := { program := "ytnokndhppdkmdaa", sum := "6ad3d3e2fdf215504693544672252f298b80e97c7ec90ea55c0cbf394e72a9d3", func := "umpire/umpirelaw04.FcsParts", spec := "fcsParts", apart := false, narrowed := true }
def FcsPartsUptoSaid : Prop := fcsPartsUptoRow.holds Try.pinned (OpenSpec.upto fcsPartsSpec)

/-- 'umpirelaw04.FcsBits', WHERE WHAT IT READS IS OF BULK AT MOST 1048576: true; the input reads as it did. -/
def fcsBitsUptoRow : OpenClaim := { program := "ytnokndhppdkmdaa", sum := "6ad3d3e2fdf215504693544672252f298b80e97c7ec90ea55c0cbf394e72a9d3", func := "umpire/umpirelaw04.FcsBits", spec := "fcsBits", apart := false, narrowed := true }
def FcsBitsUptoSaid : Prop := fcsBitsUptoRow.holds Try.pinned (OpenSpec.upto fcsBitsSpec)

/-- 'umpirelaw04.FcsKeeps', WHERE WHAT IT READS IS OF BULK AT MOST 1048576: true; the input reads as it did. -/
def fcsKeepsUptoRow : OpenClaim := { program := "ytnokndhppdkmdaa", sum := "6ad3d3e2fdf215504693544672252f298b80e97c7ec90ea55c0cbf394e72a9d3", func := "umpire/umpirelaw04.FcsKeeps", spec := "fcsKeeps", apart := false, narrowed := true }
def FcsKeepsUptoSaid : Prop := fcsKeepsUptoRow.holds Try.pinned (OpenSpec.upto fcsKeepsSpec)

end Rows
end Go.Proofs.Ytnokndhppdkmdaa
