-- laid by this session's own program (wip/tools/mkrow.py) for this claim
import Derived.Test.YtnjimecjpnjojaaRows
import Derived.Test.YtnjimecjpnjojaaF14
import Derived.Test.YtnjimecjpnjojaaQAllTermsKeeps
import Derived.Test.YtnjimecjpnjojaaPureTermsKeeps
import Derived.WalkKit
import Derived.ProofKit
import Derived.OpenShut
import Derived.ShutString
import Derived.ChangeOld
import Derived.Below
import Derived.SizedLaws
import Derived.Carry
namespace Go.Proofs.Ytnjimecjpnjojaa.termsKeeps
open Go.ChangeShapes Go.WideShapes Go.ChangeAt Go.RowKit Go.Proofs.YtnjimecjpnjojaaW.PrintWords
open Go.ChangeMaps (open_string shut_string)
set_option linter.unusedVariables false
theorem own : ownKnob Try.prog.godebug = none := by kernel_rfl
theorem laidOut : laidOutB Try.prog = true := by kernel_rfl
theorem opens5 : Q.Opens Try.prog 5 (Kd.int .u8) (fun a : Int => (Lit.int .u8 a).wf = true) := Q.Opens.int Try.underlying5
theorem opens28 : Q.Opens Try.prog 28 (Kd.slice 5 (Kd.int .u8)) (fun l : List Int => l.length * 1 ≤ 140737488351232 ∧ ∀ a ∈ l, (fun a : Int => (Lit.int .u8 a).wf = true) a) := Q.Opens.slice Try.underlying28 (by kernel_rfl) (by kernel_rfl) opens5
theorem opens3 : Q.Opens Try.prog 3 (Kd.int .i64) (fun a : Int => (Lit.int .i64 a).wf = true) := Q.Opens.int Try.underlying3
theorem opens55 : Q.Opens Try.prog 55 Print.k55 (fun x : Print.S55 => (fun a : Int => (Lit.int .i64 a).wf = true) x.f0 ∧ (fun l : List Int => l.length * 1 ≤ 140737488351232 ∧ ∀ a ∈ l, (fun a : Int => (Lit.int .u8 a).wf = true) a) x.f1) := Q.Opens.imp (Q.Opens.iso (fun x : Print.S55 => (x.f0, x.f1)) (fun a => ⟨a.1, a.2⟩) (fun _ => rfl) (Q.Opens.struct Try.underlying55 (by kernel_rfl) (Q.OpensAll.more rfl (by kernel_rfl) opens3 (Q.OpensAll.one rfl (by kernel_rfl) opens28)))) (fun _ h => h)
theorem opens58 : Q.Opens Try.prog 58 (Kd.slice 55 Print.k55) (fun l : List Print.S55 => l.length * 32 ≤ 140737488351232 ∧ ∀ a ∈ l, (fun x : Print.S55 => (fun a : Int => (Lit.int .i64 a).wf = true) x.f0 ∧ (fun l : List Int => l.length * 1 ≤ 140737488351232 ∧ ∀ a ∈ l, (fun a : Int => (Lit.int .u8 a).wf = true) a) x.f1) a) := Q.Opens.slice Try.underlying58 (by kernel_rfl) (by kernel_rfl) opens55
set_option maxRecDepth 100000 in
theorem lifted (os : Os) (started : os.Started) (H : Type) (enc : TypeId × Value → H) :
    ReturnsInHanded {} Try.checked os 14 .any (Rows.termsKeepsSpec.pre6 enc Try.prog Try.f14 Rows.termsKeepsRow.domain false) (Rows.termsKeepsSpec.post enc Try.prog Try.f14 false true false false) := by
  refine returnsInHanded_of_change_sized (C := Try.checked) own started (by kernel_rfl) Try.func14
    (ChangeSpec.witness6 (enc := enc) (C := Try.checked) false ⟨#[], #[.slice none 0 0], []⟩ 8 (by kernel_rfl) (by kernel_rfl) (by kernel_rfl) (by kernel_rfl)) ?_
  intro W base args ds gs before hval0 hW hcnd hsz0 _
  have hsz : (DataW.weightsEach Try.prog (Try.f14.params.toList ++ Rows.termsKeepsSpec.plain.varTypes Try.prog) (ds ++ gs)).all (· ≤ reachBytes) = true := hsz0
  have hval : ∀ (j : Nat) t v, Try.f14.params[j]? = some t → args[j]? = some v → Value.okWide Try.prog W .any base t v := hval0
  have hW' := hW
  obtain ⟨p, q, hA0, hV, rfl, hfz, hnd⟩ := hW
  have hA : DataW.TrodAll enc Try.prog W 0 (fun _ => true) true Try.f14.params.toList args.toList ds p := hA0
  rw [Try.params14] at hA hval hsz
  obtain ⟨v0, vs0, d0, ds0, p0, q0, hargs, rfl, rfl, h0, r0⟩ := trodAll_cons hA
  obtain ⟨rfl, rfl, rfl⟩ := trodAll_nil r0
  obtain rfl : args = #[v0] := by cases args; simp_all
  obtain ⟨rfl, rfl⟩ := trodVars_none hV
  obtain ⟨a0, len0, cap0, rfl⟩ := okWide_slice Try.underlying58 (hval 0 58 v0 rfl rfl)
  have k0 := h0
  have lt0 : ∀ x ∈ p0, x.block < W.heap.size := by obtain ⟨m, hm⟩ := k0; exact DataW.trod_lt m _ _ _ hm
  obtain ⟨l0, e0, hc0, hr0, w0⟩ : ∃ l : List Print.S55, len0 = l.length ∧ l.length ≤ cap0 ∧ Kd.C Print.k55 W a0 l.length l ∧ (fun l : List Print.S55 => l.length * 32 ≤ 140737488351232 ∧ ∀ a ∈ l, (fun x : Print.S55 => (fun a : Int => (Lit.int .i64 a).wf = true) x.f0 ∧ (fun l : List Int => l.length * 1 ≤ 140737488351232 ∧ ∀ a ∈ l, (fun a : Int => (Lit.int .u8 a).wf = true) a) x.f1) a) l := by
    obtain ⟨fuel, hf⟩ := h0
    obtain ⟨l, ⟨A, c, hcs, hl, hC⟩, hw⟩ := opens58 H enc W 0 true fuel _ _ hf (List.all_eq_true.2 fun n hn => List.all_eq_true.1 hsz n (DataW.weights_mem_each (j := 0) rfl rfl n hn))
    simp [Value.cells] at hcs
    obtain ⟨rfl, rfl, rfl⟩ := hcs
    exact ⟨l, rfl, hl, hC, hw⟩
  subst e0
  clear hA0 hval0 hsz0 hsz
  obtain ⟨k, hk⟩ := Pure.TermsKeeps l0 w0
  refine (Print.umpirelaw14_TermsKeeps.calls k _ _ l0 true W hr0 hc0 hk).mono fun e W' ⟨he, bel⟩ => ?_
  subst he
  exact ⟨_, rfl, _, _, _, [], _, [], hW', trodAll_mk1 (shut_bool Try.underlying4 _), (trodAll_cons_mk (Below.trod laidOut (by kernel_rfl) (of_decide_eq_true (by kernel_rfl)) k0 bel lt0) trodAll_mk0), rfl, bel.frame _, fun h => by cases h⟩
theorem over : Rows.termsKeepsRow.holds Try.pinned (OpenSpec.ofChange Rows.termsKeepsSpec) :=
  OpenClaim.holds_of_wide 14 Try.f14 rfl rfl rfl rfl rfl rfl rfl ⟨rfl, rfl, rfl, rfl, rfl⟩ rfl rfl rfl rfl rfl (by kernel_rfl) Try.func14 (by kernel_rfl)
    (of_decide_eq_true (by kernel_rfl)) (by unfold Func.isWrapper; first | (rw [if_pos (by decide +kernel)]; kernel_rfl) | (rw [if_neg (by decide +kernel)]; exact ⟨rfl, rfl⟩))
    (fun os started H enc _ => lifted os started H enc)
theorem proved : Rows.TermsKeepsSaid := over
#print axioms proved
end Go.Proofs.Ytnjimecjpnjojaa.termsKeeps
namespace Go.Proofs.Ytnjimecjpnjojaa
/-- The row, under a short name, for the claim. -/
theorem termsKeeps_holds : Rows.TermsKeepsSaid := termsKeeps.proved
end Go.Proofs.Ytnjimecjpnjojaa
