/-
  No cell of these rows narrows 'for every input' (looked for: loops, veiled, ifaces, maps, wideKeys, modest, calm, conditions, laid).
  DERIVED. THE GIVEN ROWS OF THIS SEAT. 11 by the template 'for every input the law returns true; each argument reads behind the call as it read before'; 0 by the template 'total and deterministic' (their statements: YtnnehekodoakeaaTotals.lean).
  GIVEN WITH THE SEED: the statements are not yours to turn. If you find one false, say at which input.
  Laid BY PROGRAM, IN A SANDBOX (cutbox-rows.mjs): the forced cells as the released guide's own fill.sh prints them over the translation 9a74fab08a304a50… (all of the seat's roots in one cut). By AI agents, Wed Nov 11 2026. No macro, syntax, notation, axiom, sorry.
-/
import Derived.Test.YtnnehekodoakeaaChecked
import GoSem.Claim
import GoSem.ClaimJoined
import GoSem.ClaimMapViews
import Derived.JoinedTies
import Derived.KernelRfl
namespace Go.Proofs.Ytnnehekodoakeaa
/- THE CELL 'sum', in the pinned program and in every row, IS THE sha256 OF THE DUMP (.gsa) THAT YtnnehekodoakeaaProg.lean LOADS. Nothing in Lean hashes anything: it is a label: what it is worth is what the hold of that sum in a sandbox is worth. -/
noncomputable def Try.pinned : Pinned := { name := "ytnnehekodoakeaa", sum := "9a74fab08a304a50fe4fb63ec80495623e3d6857f4b0faf4bf29907811b339b2", checked := Try.checked }
namespace Rows
def none {H : Type} : Left H := { results := [], args := [] }

/-- 'umpirelaw05.AccmHas': WHATEVER THE INPUT: true; the input reads as it did. -/
def accmHasSpec : ChangeSpec := { name := "accmHas", fn := fun _ => fun
  | [d1, d2] => { results := [.lit (.bool true)], args := [d1, d2] }
  | _ => none }
def accmHasRow : OpenClaim := { program := "ytnnehekodoakeaa", sum := "9a74fab08a304a50fe4fb63ec80495623e3d6857f4b0faf4bf29907811b339b2", func := "umpire/umpirelaw05.AccmHas", spec := "accmHas", apart := false }
def AccmHasSaid : Prop := accmHasRow.holds Try.pinned (OpenSpec.ofChange accmHasSpec)

/-- ITS FALSE NEIGHBOUR: 'it returns false'. Refute it at one input. -/
def accmHasWrong : ChangeSpec := { name := "accmHas", fn := fun _ => fun
  | [d1, d2] => { results := [.lit (.bool false)], args := [d1, d2] }
  | _ => none }
def AccmHasWrongFalsely : Prop := accmHasRow.holds Try.pinned (OpenSpec.ofChange accmHasWrong)

/-- 'umpirelaw05.AccmWith': WHATEVER THE INPUT: true; the input reads as it did. -/
def accmWithSpec : ChangeSpec := { name := "accmWith", fn := fun _ => fun
  | [d1, d2] => { results := [.lit (.bool true)], args := [d1, d2] }
  | _ => none }
def accmWithRow : OpenClaim := { program := "ytnnehekodoakeaa", sum := "9a74fab08a304a50fe4fb63ec80495623e3d6857f4b0faf4bf29907811b339b2", func := "umpire/umpirelaw05.AccmWith", spec := "accmWith", apart := false }
def AccmWithSaid : Prop := accmWithRow.holds Try.pinned (OpenSpec.ofChange accmWithSpec)

/-- ITS FALSE NEIGHBOUR: 'it returns false'. Refute it at one input. -/
def accmWithWrong : ChangeSpec := { name := "accmWith", fn := fun _ => fun
  | [d1, d2] => { results := [.lit (.bool false)], args := [d1, d2] }
  | _ => none }
def AccmWithWrongFalsely : Prop := accmWithRow.holds Try.pinned (OpenSpec.ofChange accmWithWrong)

/-- 'umpirelaw05.AccmBytes': WHATEVER THE INPUT: true; the input reads as it did. -/
def accmBytesSpec : ChangeSpec := { name := "accmBytes", fn := fun _ => fun
  | [d1, d2] => { results := [.lit (.bool true)], args := [d1, d2] }
  | _ => none }
def accmBytesRow : OpenClaim := { program := "ytnnehekodoakeaa", sum := "9a74fab08a304a50fe4fb63ec80495623e3d6857f4b0faf4bf29907811b339b2", func := "umpire/umpirelaw05.AccmBytes", spec := "accmBytes", apart := false }
def AccmBytesSaid : Prop := accmBytesRow.holds Try.pinned (OpenSpec.ofChange accmBytesSpec)

/-- ITS FALSE NEIGHBOUR: 'it returns false'. Refute it at one input. -/
def accmBytesWrong : ChangeSpec := { name := "accmBytes", fn := fun _ => fun
  | [d1, d2] => { results := [.lit (.bool false)], args := [d1, d2] }
  | _ => none }
def AccmBytesWrongFalsely : Prop := accmBytesRow.holds Try.pinned (OpenSpec.ofChange accmBytesWrong)

/-- 'umpirelaw05.AccmSets': WHATEVER THE INPUT: true; the input reads as it did. -/
def accmSetsSpec : ChangeSpec := { name := "accmSets", fn := fun _ => fun
  | [d1, d2, d3] => { results := [.lit (.bool true)], args := [d1, d2, d3] }
  | _ => none }
def accmSetsRow : OpenClaim := { program := "ytnnehekodoakeaa", sum := "9a74fab08a304a50fe4fb63ec80495623e3d6857f4b0faf4bf29907811b339b2", func := "umpire/umpirelaw05.AccmSets", spec := "accmSets", apart := false }
def AccmSetsSaid : Prop := accmSetsRow.holds Try.pinned (OpenSpec.ofChange accmSetsSpec)

/-- ITS FALSE NEIGHBOUR: 'it returns false'. Refute it at one input. -/
def accmSetsWrong : ChangeSpec := { name := "accmSets", fn := fun _ => fun
  | [d1, d2, d3] => { results := [.lit (.bool false)], args := [d1, d2, d3] }
  | _ => none }
def AccmSetsWrongFalsely : Prop := accmSetsRow.holds Try.pinned (OpenSpec.ofChange accmSetsWrong)

/-- 'umpirelaw05.AccmKeeps': WHATEVER THE INPUT: true; the input reads as it did. -/
def accmKeepsSpec : ChangeSpec := { name := "accmKeeps", fn := fun _ => fun
  | [d] => { results := [.lit (.bool true)], args := [d] }
  | _ => none }
def accmKeepsRow : OpenClaim := { program := "ytnnehekodoakeaa", sum := "9a74fab08a304a50fe4fb63ec80495623e3d6857f4b0faf4bf29907811b339b2", func := "umpire/umpirelaw05.AccmKeeps", spec := "accmKeeps", apart := false }
def AccmKeepsSaid : Prop := accmKeepsRow.holds Try.pinned (OpenSpec.ofChange accmKeepsSpec)

/-- ITS FALSE NEIGHBOUR: 'it returns false'. Refute it at one input. -/
def accmKeepsWrong : ChangeSpec := { name := "accmKeeps", fn := fun _ => fun
  | [d] => { results := [.lit (.bool false)], args := [d] }
  | _ => none }
def AccmKeepsWrongFalsely : Prop := accmKeepsRow.holds Try.pinned (OpenSpec.ofChange accmKeepsWrong)

/-- 'umpirelaw02.OctetPuts': WHATEVER THE INPUT: true; the input reads as it did. -/
def octetPutsSpec : ChangeSpec := { name := "octetPuts", fn := fun _ => fun
  | [d1, d2, d3] => { results := [.lit (.bool true)], args := [d1, d2, d3] }
  | _ => none }
def octetPutsRow : OpenClaim := { program := "ytnnehekodoakeaa", sum := "9a74fab08a304a50fe4fb63ec80495623e3d6857f4b0faf4bf29907811b339b2", func := "umpire/umpirelaw02.OctetPuts", spec := "octetPuts", apart := false }
def OctetPutsSaid : Prop := octetPutsRow.holds Try.pinned (OpenSpec.ofChange octetPutsSpec)

/-- ITS FALSE NEIGHBOUR: 'it returns false'. Refute it at one input. -/
def octetPutsWrong : ChangeSpec := { name := "octetPuts", fn := fun _ => fun
  | [d1, d2, d3] => { results := [.lit (.bool false)], args := [d1, d2, d3] }
  | _ => none }
def OctetPutsWrongFalsely : Prop := octetPutsRow.holds Try.pinned (OpenSpec.ofChange octetPutsWrong)

/-- 'umpirelaw02.OctetGets': WHATEVER THE INPUT: true; the input reads as it did. -/
def octetGetsSpec : ChangeSpec := { name := "octetGets", fn := fun _ => fun
  | [d1, d2] => { results := [.lit (.bool true)], args := [d1, d2] }
  | _ => none }
def octetGetsRow : OpenClaim := { program := "ytnnehekodoakeaa", sum := "9a74fab08a304a50fe4fb63ec80495623e3d6857f4b0faf4bf29907811b339b2", func := "umpire/umpirelaw02.OctetGets", spec := "octetGets", apart := false }
def OctetGetsSaid : Prop := octetGetsRow.holds Try.pinned (OpenSpec.ofChange octetGetsSpec)

/-- ITS FALSE NEIGHBOUR: 'it returns false'. Refute it at one input. -/
def octetGetsWrong : ChangeSpec := { name := "octetGets", fn := fun _ => fun
  | [d1, d2] => { results := [.lit (.bool false)], args := [d1, d2] }
  | _ => none }
def OctetGetsWrongFalsely : Prop := octetGetsRow.holds Try.pinned (OpenSpec.ofChange octetGetsWrong)

/-- 'umpirelaw02.OctetBack': WHATEVER THE INPUT: true; the input reads as it did. -/
def octetBackSpec : ChangeSpec := { name := "octetBack", fn := fun _ => fun
  | [d1, d2, d3, d4] => { results := [.lit (.bool true)], args := [d1, d2, d3, d4] }
  | _ => none }
def octetBackRow : OpenClaim := { program := "ytnnehekodoakeaa", sum := "9a74fab08a304a50fe4fb63ec80495623e3d6857f4b0faf4bf29907811b339b2", func := "umpire/umpirelaw02.OctetBack", spec := "octetBack", apart := false }
def OctetBackSaid : Prop := octetBackRow.holds Try.pinned (OpenSpec.ofChange octetBackSpec)

/-- ITS FALSE NEIGHBOUR: 'it returns false'. Refute it at one input. -/
def octetBackWrong : ChangeSpec := { name := "octetBack", fn := fun _ => fun
  | [d1, d2, d3, d4] => { results := [.lit (.bool false)], args := [d1, d2, d3, d4] }
  | _ => none }
def OctetBackWrongFalsely : Prop := octetBackRow.holds Try.pinned (OpenSpec.ofChange octetBackWrong)

/-- 'umpirelaw02.OctetCuts': WHATEVER THE INPUT: true; the input reads as it did. -/
def octetCutsSpec : ChangeSpec := { name := "octetCuts", fn := fun _ => fun
  | [d1, d2, d3] => { results := [.lit (.bool true)], args := [d1, d2, d3] }
  | _ => none }
def octetCutsRow : OpenClaim := { program := "ytnnehekodoakeaa", sum := "9a74fab08a304a50fe4fb63ec80495623e3d6857f4b0faf4bf29907811b339b2", func := "umpire/umpirelaw02.OctetCuts", spec := "octetCuts", apart := false }
def OctetCutsSaid : Prop := octetCutsRow.holds Try.pinned (OpenSpec.ofChange octetCutsSpec)

/-- ITS FALSE NEIGHBOUR: 'it returns false'. Refute it at one input. -/
def octetCutsWrong : ChangeSpec := { name := "octetCuts", fn := fun _ => fun
  | [d1, d2, d3] => { results := [.lit (.bool false)], args := [d1, d2, d3] }
  | _ => none }
def OctetCutsWrongFalsely : Prop := octetCutsRow.holds Try.pinned (OpenSpec.ofChange octetCutsWrong)

/-- 'umpirelaw02.OctetJoins': WHATEVER THE INPUT: true; the input reads as it did. -/
def octetJoinsSpec : ChangeSpec := { name := "octetJoins", fn := fun _ => fun
  | [d] => { results := [.lit (.bool true)], args := [d] }
  | _ => none }
def octetJoinsRow : OpenClaim := { program := "ytnnehekodoakeaa", sum := "9a74fab08a304a50fe4fb63ec80495623e3d6857f4b0faf4bf29907811b339b2", func := "umpire/umpirelaw02.OctetJoins", spec := "octetJoins", apart := false }
def OctetJoinsSaid : Prop := octetJoinsRow.holds Try.pinned (OpenSpec.ofChange octetJoinsSpec)

/-- ITS FALSE NEIGHBOUR: 'it returns false'. Refute it at one input. -/
def octetJoinsWrong : ChangeSpec := { name := "octetJoins", fn := fun _ => fun
  | [d] => { results := [.lit (.bool false)], args := [d] }
  | _ => none }
def OctetJoinsWrongFalsely : Prop := octetJoinsRow.holds Try.pinned (OpenSpec.ofChange octetJoinsWrong)

/-- 'umpirelaw02.OctetKeeps': WHATEVER THE INPUT: true; the input reads as it did. -/
def octetKeepsSpec : ChangeSpec := { name := "octetKeeps", fn := fun _ => fun
  | [d1, d2] => { results := [.lit (.bool true)], args := [d1, d2] }
  | _ => none }
def octetKeepsRow : OpenClaim := { program := "ytnnehekodoakeaa", sum := "9a74fab08a304a50fe4fb63ec80495623e3d6857f4b0faf4bf29907811b339b2", func := "umpire/umpirelaw02.OctetKeeps", spec := "octetKeeps", apart := false }
def OctetKeepsSaid : Prop := octetKeepsRow.holds Try.pinned (OpenSpec.ofChange octetKeepsSpec)

/-- ITS FALSE NEIGHBOUR: 'it returns false'. Refute it at one input. -/
def octetKeepsWrong : ChangeSpec := { name := "octetKeeps", fn := fun _ => fun
  | [d1, d2] => { results := [.lit (.bool false)], args := [d1, d2] }
  | _ => none }
def OctetKeepsWrongFalsely : Prop := octetKeepsRow.holds Try.pinned (OpenSpec.ofChange octetKeepsWrong)

/- THE SECOND FORM. 'bulk': how many values and letters a reading holds, each counted each time it is reached (what is shared counts as often as it is met; a slice's spare places count too). A statement '..UptoSaid' is the law's where the arguments, and the package variables that the reading takes, are together of bulk at most 1048576: NARROWER than '..Said'. Prove '..Said' where nothing that the law and all that it calls make is longer than what came in: it says more and counts as full. Else prove '..UptoSaid'. A law counts once. -/
mutual
def uptoBulk {H : Type} : DataW H → Nat
  | .lit (.string bytes) => bytes.length + 1
  | .lit _ => 1
  | .nil => 1
  | .ptr d => uptoBulk d + 1
  | .slice elems spare => uptoBulkAll elems + uptoBulkAll spare + 1
  | .agg parts => uptoBulkAll parts + 1
  | .iface _ d => uptoBulk d + 1
  | .map entries => uptoBulkEntries entries + 1
  | .held _ => 1
def uptoBulkAll {H : Type} : List (DataW H) → Nat
  | [] => 0
  | d :: r => uptoBulk d + uptoBulkAll r
def uptoBulkEntries {H : Type} : List (Lit × DataW H) → Nat
  | [] => 0
  | x :: r => uptoBulkEntry x + uptoBulkEntries r
def uptoBulkEntry {H : Type} : Lit × DataW H → Nat
  | (.string bytes, d) => bytes.length + uptoBulk d + 1
  | (_, d) => uptoBulk d + 1
 end
def uptoSmall : (H : Type) → List (DataW H) → Bool := fun _ ds => decide (uptoBulkAll ds ≤ 1048576)
def OpenSpec.upto (s : _root_.Go.ChangeSpec) : _root_.Go.OpenSpec := { _root_.Go.OpenSpec.ofChange s with cond := some uptoSmall }

/-- 'umpirelaw05.AccmHas', WHERE WHAT IT READS IS OF BULK AT MOST 1048576: true; the input reads as it did. -/
def accmHasUptoRow : OpenClaim := { program := "ytnnehekodoakeaa", sum := "9a74fab08a304a50fe4fb63ec80495623e3d6857f4b0faf4bf29907811b339b2", func := "umpire/umpirelaw05.AccmHas", spec := "accmHas", apart := false, narrowed := true }
def AccmHasUptoSaid : Prop := accmHasUptoRow.holds Try.pinned (OpenSpec.upto accmHasSpec)

/-- 'umpirelaw05.AccmWith', WHERE WHAT IT READS IS OF BULK AT MOST 1048576: true; the input reads as it did. -/
def accmWithUptoRow : OpenClaim := { program := "ytnnehekodoakeaa", sum := "9a74fab08a304a50fe4fb63ec80495623e3d6857f4b0faf4bf29907811b339b2", func := "umpire/umpirelaw05.AccmWith", spec := "accmWith", apart := false, narrowed := true }
def AccmWithUptoSaid : Prop := accmWithUptoRow.holds Try.pinned (OpenSpec.upto accmWithSpec)

/-- 'umpirelaw05.AccmBytes', WHERE WHAT IT READS IS OF BULK AT MOST 1048576: true; the input reads as it did. -/
def accmBytesUptoRow : OpenClaim := { program := "ytnnehekodoakeaa", sum := "9a74fab08a304a50fe4fb63ec80495623e3d6857f4b0faf4bf29907811b339b2", func := "umpire/umpirelaw05.AccmBytes", spec := "accmBytes", apart := false, narrowed := true }
def AccmBytesUptoSaid : Prop := accmBytesUptoRow.holds Try.pinned (OpenSpec.upto accmBytesSpec)

/-- 'umpirelaw05.AccmSets', WHERE WHAT IT READS IS OF BULK AT MOST 1048576: true; the input reads as it did. -/
def accmSetsUptoRow : OpenClaim := { program := "ytnnehekodoakeaa", sum := "9a74fab08a304a50fe4fb63ec80495623e3d6857f4b0faf4bf29907811b339b2", func := "umpire/umpirelaw05.AccmSets", spec := "accmSets", apart := false, narrowed := true }
def AccmSetsUptoSaid : Prop := accmSetsUptoRow.holds Try.pinned (OpenSpec.upto accmSetsSpec)

/-- 'umpirelaw05.AccmKeeps', WHERE WHAT IT READS IS OF BULK AT MOST 1048576: true; the input reads as it did. -/
def accmKeepsUptoRow : OpenClaim := { program := "ytnnehekodoakeaa", sum := "9a74fab08a304a50fe4fb63ec80495623e3d6857f4b0faf4bf29907811b339b2", func := "umpire/umpirelaw05.AccmKeeps", spec := "accmKeeps", apart := false, narrowed := true }
def AccmKeepsUptoSaid : Prop := accmKeepsUptoRow.holds Try.pinned (OpenSpec.upto accmKeepsSpec)

/-- 'umpirelaw02.OctetPuts', WHERE WHAT IT READS IS OF BULK AT MOST 1048576: true; the input reads as it did. -/
def octetPutsUptoRow : OpenClaim := { program := "ytnnehekodoakeaa", sum := "9a74fab08a304a50fe4fb63ec80495623e3d6857f4b0faf4bf29907811b339b2", func := "umpire/umpirelaw02.OctetPuts", spec := "octetPuts", apart := false, narrowed := true }
def OctetPutsUptoSaid : Prop := octetPutsUptoRow.holds Try.pinned (OpenSpec.upto octetPutsSpec)

/-- 'umpirelaw02.OctetGets', WHERE WHAT IT READS IS OF BULK AT MOST 1048576: true; the input reads as it did. -/
def octetGetsUptoRow : OpenClaim := { program := "ytnnehekodoakeaa", sum := "9a74fab08a304a50fe4fb63ec80495623e3d6857f4b0faf4bf29907811b339b2", func := "umpire/umpirelaw02.OctetGets", spec := "octetGets", apart := false, narrowed := true }
def OctetGetsUptoSaid : Prop := octetGetsUptoRow.holds Try.pinned (OpenSpec.upto octetGetsSpec)

/-- 'umpirelaw02.OctetBack', WHERE WHAT IT READS IS OF BULK AT MOST 1048576: true; the input reads as it did. -/
def octetBackUptoRow : OpenClaim := { program := "ytnnehekodoakeaa", sum := "9a74fab08a304a50fe4fb63ec80495623e3d6857f4b0faf4bf29907811b339b2", func := "umpire/umpirelaw02.OctetBack", spec := "octetBack", apart := false, narrowed := true }
def OctetBackUptoSaid : Prop := octetBackUptoRow.holds Try.pinned (OpenSpec.upto octetBackSpec)

/-- 'umpirelaw02.OctetCuts', WHERE WHAT IT READS IS OF BULK AT MOST 1048576: true; the input reads as it did. -/
def octetCutsUptoRow : OpenClaim := { program := "ytnnehekodoakeaa", sum := "9a74fab08a304a50fe4fb63ec80495623e3d6857f4b0faf4bf29907811b339b2", func := "umpire/umpirelaw02.OctetCuts", spec := "octetCuts", apart := false, narrowed := true }
def OctetCutsUptoSaid : Prop := octetCutsUptoRow.holds Try.pinned (OpenSpec.upto octetCutsSpec)

/-- 'umpirelaw02.OctetJoins', WHERE WHAT IT READS IS OF BULK AT MOST 1048576: true; the input reads as it did. -/
def octetJoinsUptoRow : OpenClaim := { program := "ytnnehekodoakeaa", sum := "9a74fab08a304a50fe4fb63ec80495623e3d6857f4b0faf4bf29907811b339b2", func := "umpire/umpirelaw02.OctetJoins", spec := "octetJoins", apart := false, narrowed := true }
def OctetJoinsUptoSaid : Prop := octetJoinsUptoRow.holds Try.pinned (OpenSpec.upto octetJoinsSpec)

/-- 'umpirelaw02.OctetKeeps', WHERE WHAT IT READS IS OF BULK AT MOST 1048576: true; the input reads as it did. -/
def octetKeepsUptoRow : OpenClaim := { program := "ytnnehekodoakeaa", sum := "9a74fab08a304a50fe4fb63ec80495623e3d6857f4b0faf4bf29907811b339b2", func := "umpire/umpirelaw02.OctetKeeps", spec := "octetKeeps", apart := false, narrowed := true }
def OctetKeepsUptoSaid : Prop := octetKeepsUptoRow.holds Try.pinned (OpenSpec.upto octetKeepsSpec)

end Rows
end Go.Proofs.Ytnnehekodoakeaa
