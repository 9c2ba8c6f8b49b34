/-
  No cell of these rows narrows 'for every input' (looked for: loops, veiled, ifaces, maps, wideKeys, modest, calm, conditions, laid).
  DERIVED. THE GIVEN ROWS OF THIS SEAT. 12 by the template 'for every input the law returns true; each argument reads behind the call as it read before'; 0 by the template 'total and deterministic' (their statements: YtnjimecjpnjojaaTotals.lean).
  GIVEN WITH THE SEED: the statements are not yours to turn. If you find one false, say at which input.
  Laid BY PROGRAM, IN A SANDBOX (cutbox-rows.mjs): the forced cells as the released guide's own fill.sh prints them over the translation 0f84290c976fff81… (all of the seat's roots in one cut). By AI agents, Wed Nov 11 2026. No macro, syntax, notation, axiom, sorry.
-/
import Derived.Test.YtnjimecjpnjojaaChecked
import GoSem.Claim
import GoSem.ClaimJoined
import GoSem.ClaimMapViews
import Derived.JoinedTies
import Derived.KernelRfl
namespace Go.Proofs.Ytnjimecjpnjojaa
/- THE CELL 'sum', in the pinned program and in every row, IS THE sha256 OF THE DUMP (.gsa) THAT YtnjimecjpnjojaaProg.lean LOADS. Nothing in Lean hashes anything: it is a label: what it is worth is what the hold of that sum in a sandbox is worth. -/
noncomputable def Try.pinned : Pinned := { name := "ytnjimecjpnjojaa", sum := "0f84290c976fff81195a6af763bb0f381bd9aa2cbd16db98bf5237f40c33fb33", checked := Try.checked }
namespace Rows
def none {H : Type} : Left H := { results := [], args := [] }

/-- 'umpirelaw09.PcapPuts': WHATEVER THE INPUT: true; the input reads as it did. -/
def pcapPutsSpec : ChangeSpec := { name := "pcapPuts", fn := fun _ => fun
  | [d1, d2] => { results := [.lit (.bool true)], args := [d1, d2] }
  | _ => none }
def pcapPutsRow : OpenClaim := { program := "ytnjimecjpnjojaa", sum := "0f84290c976fff81195a6af763bb0f381bd9aa2cbd16db98bf5237f40c33fb33", func := "umpire/umpirelaw09.PcapPuts", spec := "pcapPuts", unfollowed := true, recurses := true, apart := false }
def PcapPutsSaid : Prop := pcapPutsRow.holds Try.pinned (OpenSpec.ofChange pcapPutsSpec)

/-- ITS FALSE NEIGHBOUR: 'it returns false'. Refute it at one input. -/
def pcapPutsWrong : ChangeSpec := { name := "pcapPuts", fn := fun _ => fun
  | [d1, d2] => { results := [.lit (.bool false)], args := [d1, d2] }
  | _ => none }
def PcapPutsWrongFalsely : Prop := pcapPutsRow.holds Try.pinned (OpenSpec.ofChange pcapPutsWrong)

/-- 'umpirelaw09.PcapReads': WHATEVER THE INPUT: true; the input reads as it did. -/
def pcapReadsSpec : ChangeSpec := { name := "pcapReads", fn := fun _ => fun
  | [d] => { results := [.lit (.bool true)], args := [d] }
  | _ => none }
def pcapReadsRow : OpenClaim := { program := "ytnjimecjpnjojaa", sum := "0f84290c976fff81195a6af763bb0f381bd9aa2cbd16db98bf5237f40c33fb33", func := "umpire/umpirelaw09.PcapReads", spec := "pcapReads", unfollowed := true, recurses := true, apart := false }
def PcapReadsSaid : Prop := pcapReadsRow.holds Try.pinned (OpenSpec.ofChange pcapReadsSpec)

/-- ITS FALSE NEIGHBOUR: 'it returns false'. Refute it at one input. -/
def pcapReadsWrong : ChangeSpec := { name := "pcapReads", fn := fun _ => fun
  | [d] => { results := [.lit (.bool false)], args := [d] }
  | _ => none }
def PcapReadsWrongFalsely : Prop := pcapReadsRow.holds Try.pinned (OpenSpec.ofChange pcapReadsWrong)

/-- 'umpirelaw09.PcapNexts': WHATEVER THE INPUT: true; the input reads as it did. -/
def pcapNextsSpec : ChangeSpec := { name := "pcapNexts", fn := fun _ => fun
  | [d1, d2] => { results := [.lit (.bool true)], args := [d1, d2] }
  | _ => none }
def pcapNextsRow : OpenClaim := { program := "ytnjimecjpnjojaa", sum := "0f84290c976fff81195a6af763bb0f381bd9aa2cbd16db98bf5237f40c33fb33", func := "umpire/umpirelaw09.PcapNexts", spec := "pcapNexts", unfollowed := true, recurses := true, apart := false }
def PcapNextsSaid : Prop := pcapNextsRow.holds Try.pinned (OpenSpec.ofChange pcapNextsSpec)

/-- ITS FALSE NEIGHBOUR: 'it returns false'. Refute it at one input. -/
def pcapNextsWrong : ChangeSpec := { name := "pcapNexts", fn := fun _ => fun
  | [d1, d2] => { results := [.lit (.bool false)], args := [d1, d2] }
  | _ => none }
def PcapNextsWrongFalsely : Prop := pcapNextsRow.holds Try.pinned (OpenSpec.ofChange pcapNextsWrong)

/-- 'umpirelaw09.PcapBack': WHATEVER THE INPUT: true; the input reads as it did. -/
def pcapBackSpec : ChangeSpec := { name := "pcapBack", fn := fun _ => fun
  | [d1, d2, d3] => { results := [.lit (.bool true)], args := [d1, d2, d3] }
  | _ => none }
def pcapBackRow : OpenClaim := { program := "ytnjimecjpnjojaa", sum := "0f84290c976fff81195a6af763bb0f381bd9aa2cbd16db98bf5237f40c33fb33", func := "umpire/umpirelaw09.PcapBack", spec := "pcapBack", unfollowed := true, recurses := true, apart := false }
def PcapBackSaid : Prop := pcapBackRow.holds Try.pinned (OpenSpec.ofChange pcapBackSpec)

/-- ITS FALSE NEIGHBOUR: 'it returns false'. Refute it at one input. -/
def pcapBackWrong : ChangeSpec := { name := "pcapBack", fn := fun _ => fun
  | [d1, d2, d3] => { results := [.lit (.bool false)], args := [d1, d2, d3] }
  | _ => none }
def PcapBackWrongFalsely : Prop := pcapBackRow.holds Try.pinned (OpenSpec.ofChange pcapBackWrong)

/-- 'umpirelaw09.PcapCuts': WHATEVER THE INPUT: true; the input reads as it did. -/
def pcapCutsSpec : ChangeSpec := { name := "pcapCuts", fn := fun _ => fun
  | [d1, d2, d3] => { results := [.lit (.bool true)], args := [d1, d2, d3] }
  | _ => none }
def pcapCutsRow : OpenClaim := { program := "ytnjimecjpnjojaa", sum := "0f84290c976fff81195a6af763bb0f381bd9aa2cbd16db98bf5237f40c33fb33", func := "umpire/umpirelaw09.PcapCuts", spec := "pcapCuts", unfollowed := true, recurses := true, apart := false }
def PcapCutsSaid : Prop := pcapCutsRow.holds Try.pinned (OpenSpec.ofChange pcapCutsSpec)

/-- ITS FALSE NEIGHBOUR: 'it returns false'. Refute it at one input. -/
def pcapCutsWrong : ChangeSpec := { name := "pcapCuts", fn := fun _ => fun
  | [d1, d2, d3] => { results := [.lit (.bool false)], args := [d1, d2, d3] }
  | _ => none }
def PcapCutsWrongFalsely : Prop := pcapCutsRow.holds Try.pinned (OpenSpec.ofChange pcapCutsWrong)

/-- 'umpirelaw09.PcapKeeps': WHATEVER THE INPUT: true; the input reads as it did. -/
def pcapKeepsSpec : ChangeSpec := { name := "pcapKeeps", fn := fun _ => fun
  | [d] => { results := [.lit (.bool true)], args := [d] }
  | _ => none }
def pcapKeepsRow : OpenClaim := { program := "ytnjimecjpnjojaa", sum := "0f84290c976fff81195a6af763bb0f381bd9aa2cbd16db98bf5237f40c33fb33", func := "umpire/umpirelaw09.PcapKeeps", spec := "pcapKeeps", unfollowed := true, recurses := true, apart := false }
def PcapKeepsSaid : Prop := pcapKeepsRow.holds Try.pinned (OpenSpec.ofChange pcapKeepsSpec)

/-- ITS FALSE NEIGHBOUR: 'it returns false'. Refute it at one input. -/
def pcapKeepsWrong : ChangeSpec := { name := "pcapKeeps", fn := fun _ => fun
  | [d] => { results := [.lit (.bool false)], args := [d] }
  | _ => none }
def PcapKeepsWrongFalsely : Prop := pcapKeepsRow.holds Try.pinned (OpenSpec.ofChange pcapKeepsWrong)

/-- 'umpirelaw14.TermsRights': WHATEVER THE INPUT: true; the input reads as it did. -/
def termsRightsSpec : ChangeSpec := { name := "termsRights", fn := fun _ => fun
  | [d] => { results := [.lit (.bool true)], args := [d] }
  | _ => none }
def termsRightsRow : OpenClaim := { program := "ytnjimecjpnjojaa", sum := "0f84290c976fff81195a6af763bb0f381bd9aa2cbd16db98bf5237f40c33fb33", func := "umpire/umpirelaw14.TermsRights", spec := "termsRights", unfollowed := true, recurses := true, apart := false }
def TermsRightsSaid : Prop := termsRightsRow.holds Try.pinned (OpenSpec.ofChange termsRightsSpec)

/-- ITS FALSE NEIGHBOUR: 'it returns false'. Refute it at one input. -/
def termsRightsWrong : ChangeSpec := { name := "termsRights", fn := fun _ => fun
  | [d] => { results := [.lit (.bool false)], args := [d] }
  | _ => none }
def TermsRightsWrongFalsely : Prop := termsRightsRow.holds Try.pinned (OpenSpec.ofChange termsRightsWrong)

/-- 'umpirelaw14.TermsReads': WHATEVER THE INPUT: true; the input reads as it did. -/
def termsReadsSpec : ChangeSpec := { name := "termsReads", fn := fun _ => fun
  | [d] => { results := [.lit (.bool true)], args := [d] }
  | _ => none }
def termsReadsRow : OpenClaim := { program := "ytnjimecjpnjojaa", sum := "0f84290c976fff81195a6af763bb0f381bd9aa2cbd16db98bf5237f40c33fb33", func := "umpire/umpirelaw14.TermsReads", spec := "termsReads", unfollowed := true, recurses := true, apart := false }
def TermsReadsSaid : Prop := termsReadsRow.holds Try.pinned (OpenSpec.ofChange termsReadsSpec)

/-- ITS FALSE NEIGHBOUR: 'it returns false'. Refute it at one input. -/
def termsReadsWrong : ChangeSpec := { name := "termsReads", fn := fun _ => fun
  | [d] => { results := [.lit (.bool false)], args := [d] }
  | _ => none }
def TermsReadsWrongFalsely : Prop := termsReadsRow.holds Try.pinned (OpenSpec.ofChange termsReadsWrong)

/-- 'umpirelaw14.TermsPuts': WHATEVER THE INPUT: true; the input reads as it did. -/
def termsPutsSpec : ChangeSpec := { name := "termsPuts", fn := fun _ => fun
  | [d] => { results := [.lit (.bool true)], args := [d] }
  | _ => none }
def termsPutsRow : OpenClaim := { program := "ytnjimecjpnjojaa", sum := "0f84290c976fff81195a6af763bb0f381bd9aa2cbd16db98bf5237f40c33fb33", func := "umpire/umpirelaw14.TermsPuts", spec := "termsPuts", unfollowed := true, recurses := true, apart := false }
def TermsPutsSaid : Prop := termsPutsRow.holds Try.pinned (OpenSpec.ofChange termsPutsSpec)

/-- ITS FALSE NEIGHBOUR: 'it returns false'. Refute it at one input. -/
def termsPutsWrong : ChangeSpec := { name := "termsPuts", fn := fun _ => fun
  | [d] => { results := [.lit (.bool false)], args := [d] }
  | _ => none }
def TermsPutsWrongFalsely : Prop := termsPutsRow.holds Try.pinned (OpenSpec.ofChange termsPutsWrong)

/-- 'umpirelaw14.TermsBad': WHATEVER THE INPUT: true; the input reads as it did. -/
def termsBadSpec : ChangeSpec := { name := "termsBad", fn := fun _ => fun
  | [d] => { results := [.lit (.bool true)], args := [d] }
  | _ => none }
def termsBadRow : OpenClaim := { program := "ytnjimecjpnjojaa", sum := "0f84290c976fff81195a6af763bb0f381bd9aa2cbd16db98bf5237f40c33fb33", func := "umpire/umpirelaw14.TermsBad", spec := "termsBad", unfollowed := true, recurses := true, apart := false }
def TermsBadSaid : Prop := termsBadRow.holds Try.pinned (OpenSpec.ofChange termsBadSpec)

/-- ITS FALSE NEIGHBOUR: 'it returns false'. Refute it at one input. -/
def termsBadWrong : ChangeSpec := { name := "termsBad", fn := fun _ => fun
  | [d] => { results := [.lit (.bool false)], args := [d] }
  | _ => none }
def TermsBadWrongFalsely : Prop := termsBadRow.holds Try.pinned (OpenSpec.ofChange termsBadWrong)

/-- 'umpirelaw14.TermsBack': WHATEVER THE INPUT: true; the input reads as it did. -/
def termsBackSpec : ChangeSpec := { name := "termsBack", fn := fun _ => fun
  | [d1, d2] => { results := [.lit (.bool true)], args := [d1, d2] }
  | _ => none }
def termsBackRow : OpenClaim := { program := "ytnjimecjpnjojaa", sum := "0f84290c976fff81195a6af763bb0f381bd9aa2cbd16db98bf5237f40c33fb33", func := "umpire/umpirelaw14.TermsBack", spec := "termsBack", unfollowed := true, recurses := true, apart := false }
def TermsBackSaid : Prop := termsBackRow.holds Try.pinned (OpenSpec.ofChange termsBackSpec)

/-- ITS FALSE NEIGHBOUR: 'it returns false'. Refute it at one input. -/
def termsBackWrong : ChangeSpec := { name := "termsBack", fn := fun _ => fun
  | [d1, d2] => { results := [.lit (.bool false)], args := [d1, d2] }
  | _ => none }
def TermsBackWrongFalsely : Prop := termsBackRow.holds Try.pinned (OpenSpec.ofChange termsBackWrong)

/-- 'umpirelaw14.TermsKeeps': WHATEVER THE INPUT: true; the input reads as it did. -/
def termsKeepsSpec : ChangeSpec := { name := "termsKeeps", fn := fun _ => fun
  | [d] => { results := [.lit (.bool true)], args := [d] }
  | _ => none }
def termsKeepsRow : OpenClaim := { program := "ytnjimecjpnjojaa", sum := "0f84290c976fff81195a6af763bb0f381bd9aa2cbd16db98bf5237f40c33fb33", func := "umpire/umpirelaw14.TermsKeeps", spec := "termsKeeps", unfollowed := true, recurses := true, apart := false }
def TermsKeepsSaid : Prop := termsKeepsRow.holds Try.pinned (OpenSpec.ofChange termsKeepsSpec)

/-- ITS FALSE NEIGHBOUR: 'it returns false'. Refute it at one input. -/
def termsKeepsWrong : ChangeSpec := { name := "termsKeeps", fn := fun _ => fun
  | [d] => { results := [.lit (.bool false)], args := [d] }
  | _ => none }
def TermsKeepsWrongFalsely : Prop := termsKeepsRow.holds Try.pinned (OpenSpec.ofChange termsKeepsWrong)

/- THE SECOND FORM. 'bulk': how many values and letters a reading holds, each counted each time it is reached (what is shared counts as often as it is met; a slice's spare places count too). A statement '..UptoSaid' is the law's where the arguments, and the package variables that the reading takes, are together of bulk at most 1048576: NARROWER than '..Said'. Prove '..Said' where nothing that the law and all that it calls make is longer than what came in: it says more and counts as full. Else prove '..UptoSaid'. A law counts once. -/
mutual
def uptoBulk {H : Type} : DataW H → Nat
  | .lit (.string bytes) => bytes.length + 1
  | .lit _ => 1
  | .nil => 1
  | .ptr d => uptoBulk d + 1
  | .slice elems spare => uptoBulkAll elems + uptoBulkAll spare + 1
  | .agg parts => uptoBulkAll parts + 1
  | .iface _ d => uptoBulk d + 1
  | .map entries => uptoBulkEntries entries + 1
  | .held _ => 1
def uptoBulkAll {H : Type} : List (DataW H) → Nat
  | [] => 0
  | d :: r => uptoBulk d + uptoBulkAll r
def uptoBulkEntries {H : Type} : List (Lit × DataW H) → Nat
  | [] => 0
  | x :: r => uptoBulkEntry x + uptoBulkEntries r
def uptoBulkEntry {H : Type} : Lit × DataW H → Nat
  | (.string bytes, d) => bytes.length + uptoBulk d + 1
  | (_, d) => uptoBulk d + 1
 end
def uptoSmall : (H : Type) → List (DataW H) → Bool := fun _ ds => decide (uptoBulkAll ds ≤ 1048576)
def OpenSpec.upto (s : _root_.Go.ChangeSpec) : _root_.Go.OpenSpec := { _root_.Go.OpenSpec.ofChange s with cond := some uptoSmall }

/-- 'umpirelaw09.PcapPuts', WHERE WHAT IT READS IS OF BULK AT MOST 1048576: true; the input reads as it did. -/
def pcapPutsUptoRow : OpenClaim := { program := "ytnjimecjpnjojaa", sum := "0f84290c976fff81195a6af763bb0f381bd9aa2cbd16db98bf5237f40c33fb33", func := "umpire/umpirelaw09.PcapPuts", spec := "pcapPuts", unfollowed := true, recurses := true, apart := false, narrowed := true }
def PcapPutsUptoSaid : Prop := pcapPutsUptoRow.holds Try.pinned (OpenSpec.upto pcapPutsSpec)

/-- 'umpirelaw09.PcapReads', WHERE WHAT IT READS IS OF BULK AT MOST 1048576: true; the input reads as it did. -/
def pcapReadsUptoRow : OpenClaim := { program := "ytnjimecjpnjojaa", sum := "0f84290c976fff81195a6af763bb0f381bd9aa2cbd16db98bf5237f40c33fb33", func := "umpire/umpirelaw09.PcapReads", spec := "pcapReads", unfollowed := true, recurses := true, apart := false, narrowed := true }
def PcapReadsUptoSaid : Prop := pcapReadsUptoRow.holds Try.pinned (OpenSpec.upto pcapReadsSpec)

/-- 'umpirelaw09.PcapNexts', WHERE WHAT IT READS IS OF BULK AT MOST 1048576: true; the input reads as it did. -/
def pcapNextsUptoRow : OpenClaim := { program := "ytnjimecjpnjojaa", sum := "0f84290c976fff81195a6af763bb0f381bd9aa2cbd16db98bf5237f40c33fb33", func := "umpire/umpirelaw09.PcapNexts", spec := "pcapNexts", unfollowed := true, recurses := true, apart := false, narrowed := true }
def PcapNextsUptoSaid : Prop := pcapNextsUptoRow.holds Try.pinned (OpenSpec.upto pcapNextsSpec)

/-- 'umpirelaw09.PcapBack', WHERE WHAT IT READS IS OF BULK AT MOST 1048576: true; the input reads as it did. -/
def pcapBackUptoRow : OpenClaim := { program := "ytnjimecjpnjojaa", sum := "0f84290c976fff81195a6af763bb0f381bd9aa2cbd16db98bf5237f40c33fb33", func := "umpire/umpirelaw09.PcapBack", spec := "pcapBack", unfollowed := true, recurses := true, apart := false, narrowed := true }
def PcapBackUptoSaid : Prop := pcapBackUptoRow.holds Try.pinned (OpenSpec.upto pcapBackSpec)

/-- 'umpirelaw09.PcapCuts', WHERE WHAT IT READS IS OF BULK AT MOST 1048576: true; the input reads as it did. -/
def pcapCutsUptoRow : OpenClaim := { program := "ytnjimecjpnjojaa", sum := "0f84290c976fff81195a6af763bb0f381bd9aa2cbd16db98bf5237f40c33fb33", func := "umpire/umpirelaw09.PcapCuts", spec := "pcapCuts", unfollowed := true, recurses := true, apart := false, narrowed := true }
def PcapCutsUptoSaid : Prop := pcapCutsUptoRow.holds Try.pinned (OpenSpec.upto pcapCutsSpec)

/-- 'umpirelaw09.PcapKeeps', WHERE WHAT IT READS IS OF BULK AT MOST 1048576: true; the input reads as it did. -/
def pcapKeepsUptoRow : OpenClaim := { program := "ytnjimecjpnjojaa", sum := "0f84290c976fff81195a6af763bb0f381bd9aa2cbd16db98bf5237f40c33fb33", func := "umpire/umpirelaw09.PcapKeeps", spec := "pcapKeeps", unfollowed := true, recurses := true, apart := false, narrowed := true }
def PcapKeepsUptoSaid : Prop := pcapKeepsUptoRow.holds Try.pinned (OpenSpec.upto pcapKeepsSpec)

/-- 'umpirelaw14.TermsRights', WHERE WHAT IT READS IS OF BULK AT MOST 1048576: true; the input reads as it did. -/
def termsRightsUptoRow : OpenClaim := { program := "ytnjimecjpnjojaa", sum := "0f84290c976fff81195a6af763bb0f381bd9aa2cbd16db98bf5237f40c33fb33", func := "umpire/umpirelaw14.TermsRights", spec := "termsRights", unfollowed := true, recurses := true, apart := false, narrowed := true }
def TermsRightsUptoSaid : Prop := termsRightsUptoRow.holds Try.pinned (OpenSpec.upto termsRightsSpec)

/-- 'umpirelaw14.TermsReads', WHERE WHAT IT READS IS OF BULK AT MOST 1048576: true; the input reads as it did. -/
def termsReadsUptoRow : OpenClaim := { program := "ytnjimecjpnjojaa", sum := "0f84290c976fff81195a6af763bb0f381bd9aa2cbd16db98bf5237f40c33fb33", func := "umpire/umpirelaw14.TermsReads", spec := "termsReads", unfollowed := true, recurses := true, apart := false, narrowed := true }
def TermsReadsUptoSaid : Prop := termsReadsUptoRow.holds Try.pinned (OpenSpec.upto termsReadsSpec)

/-- 'umpirelaw14.TermsPuts', WHERE WHAT IT READS IS OF BULK AT MOST 1048576: true; the input reads as it did. -/
def termsPutsUptoRow : OpenClaim := { program := "ytnjimecjpnjojaa", sum := "0f84290c976fff81195a6af763bb0f381bd9aa2cbd16db98bf5237f40c33fb33", func := "umpire/umpirelaw14.TermsPuts", spec := "termsPuts", unfollowed := true, recurses := true, apart := false, narrowed := true }
def TermsPutsUptoSaid : Prop := termsPutsUptoRow.holds Try.pinned (OpenSpec.upto termsPutsSpec)

/-- 'umpirelaw14.TermsBad', WHERE WHAT IT READS IS OF BULK AT MOST 1048576: true; the input reads as it did. -/
def termsBadUptoRow : OpenClaim := { program := "ytnjimecjpnjojaa", sum := "0f84290c976fff81195a6af763bb0f381bd9aa2cbd16db98bf5237f40c33fb33", func := "umpire/umpirelaw14.TermsBad", spec := "termsBad", unfollowed := true, recurses := true, apart := false, narrowed := true }
def TermsBadUptoSaid : Prop := termsBadUptoRow.holds Try.pinned (OpenSpec.upto termsBadSpec)

/-- 'umpirelaw14.TermsBack', WHERE WHAT IT READS IS OF BULK AT MOST 1048576: true; the input reads as it did. -/
def termsBackUptoRow : OpenClaim := { program := "ytnjimecjpnjojaa", sum := "0f84290c976fff81195a6af763bb0f381bd9aa2cbd16db98bf5237f40c33fb33", func := "umpire/umpirelaw14.TermsBack", spec := "termsBack", unfollowed := true, recurses := true, apart := false, narrowed := true }
def TermsBackUptoSaid : Prop := termsBackUptoRow.holds Try.pinned (OpenSpec.upto termsBackSpec)

/-- 'umpirelaw14.TermsKeeps', WHERE WHAT IT READS IS OF BULK AT MOST 1048576: true; the input reads as it did. -/
def termsKeepsUptoRow : OpenClaim := { program := "ytnjimecjpnjojaa", sum := "0f84290c976fff81195a6af763bb0f381bd9aa2cbd16db98bf5237f40c33fb33", func := "umpire/umpirelaw14.TermsKeeps", spec := "termsKeeps", unfollowed := true, recurses := true, apart := false, narrowed := true }
def TermsKeepsUptoSaid : Prop := termsKeepsUptoRow.holds Try.pinned (OpenSpec.upto termsKeepsSpec)

end Rows
end Go.Proofs.Ytnjimecjpnjojaa
